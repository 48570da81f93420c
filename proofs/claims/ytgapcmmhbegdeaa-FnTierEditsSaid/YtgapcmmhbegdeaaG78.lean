-- Written by this session's own program over the kit's print (wip/tools/myprint.py); Lean checks it.
import Derived.Test.YtgapcmmhbegdeaaMBase
import Derived.Test.YtgapcmmhbegdeaaG0
import Derived.Test.YtgapcmmhbegdeaaG1
import Derived.Test.YtgapcmmhbegdeaaG8
import Derived.Test.YtgapcmmhbegdeaaG45
import Derived.Test.YtgapcmmhbegdeaaG77
namespace Go.Proofs.Ytgapcmmhbegdeaa.G
open Go.RowKit Go.Proofs.YtgapcmmhbegdeaaW.PrintWords Go.Proofs.YtgapcmmhbegdeaaW.PrintLast Go.Proofs.YtgapcmmhbegdeaaW.PrintMore
attribute [local go_sem] max2_int min2_int max_two min_two max_three min_three max_four min_four str_geq str_gtr str_leq   -- for this text's walks alone
set_option linter.unusedVariables false
set_option linter.unusedSimpArgs false
/-! ### impl_JoinNotes: function 40 -/
def impl_JoinNotes.j0 : Nat → List (S58) → Int → Bool → Option ((List (S58)) × Bool)
 | 0,_,_,_=>none
 | k + 1,x0,x1,x45=>if x45 = true then (some (([] : List (S58)),false)) else ((slices_Clone_Note.f x0).bind fun t107=>((slices_Delete_Note.f t107 (wrap64 (x1 + 1)) (wrap64 (x1 + 2))).bind fun t110=>(if 0 ≤ (wrap64 (x1 + 1)) then (if (wrap64 (x1 + 1)) < (x0.length : Int) then (if 0 ≤ x1 then (if x1 < (t110.length : Int) then (some ((t110.set (x1 : Int).toNat (⟨(rd_T58 t110 x1).f0,(rd_T58 x0 (wrap64 (x1 + 1))).f1,(rd_T58 t110 x1).f2⟩ : S58)),true)) else (none)) else (none)) else (none)) else (none))))
def impl_JoinNotes.f (k : Nat) (l0 : List (S58)) (a1 : Int) : Option ((List (S58)) × Bool):=(impl_IsTier.f k l0).bind fun t101=>(if t101 = true then ((impl_within.f a1 0 (wrap64 ((l0.length : Int) - 2))).bind fun t102=>(if t102 = true then (if 0 ≤ a1 then (if a1 < (l0.length : Int) then (if 0 ≤ (wrap64 (a1 + 1)) then (if (wrap64 (a1 + 1)) < (l0.length : Int) then (if ((rd_T58 l0 a1).f1) = ((rd_T58 l0 (wrap64 (a1 + 1))).f0) then (impl_JoinNotes.j0 k l0 a1 (((rd_T58 l0 a1).f2).toList != ((rd_T58 l0 (wrap64 (a1 + 1))).f2).toList)) else (impl_JoinNotes.j0 k l0 a1 true)) else (none)) else (none)) else (none)) else (none)) else (impl_JoinNotes.j0 k l0 a1 true))) else (impl_JoinNotes.j0 k l0 a1 true))
def impl_JoinNotes.T1 : Bool × List (List Nat × List Nat):=(true,[([],[]),([0],[0]),([1],[1]),([2,1],[2]),([3],[3]),([3],[3]),([5,3],[3,5]),([6,3],[3,6]),([4,7,3,3],[3,4,7]),([8,3],[3,8]),([3,9],[3,9]),([10,8],[10]),([11],[11]),([11],[11]),([12,13,11],[11,12,13]),([14,11],[11,14]),([15,11],[11,15]),([11],[11]),([11],[11]),([18,11],[11,18]),([17,19,11],[11,17,19]),([20,11],[11,20]),([21,11],[11,21]),([16,22,11],[11,16,22]),([11,23],[11,23]),([24,11],[24]),([25],[25]),([25],[25]),([26,27,25],[25,26,27]),([28,25],[25,28]),([29,25],[25,29]),([25],[25]),([25],[25]),([32,25],[25,32]),([31,33,25],[25,31,33]),([34,25],[25,34]),([35,25],[25,35]),([30,36,25],[25,30,36]),([25,37],[25,37])])
def impl_JoinNotes.B1 : List Nat:=[0,1,3,7,15,15,47,111,255,511,1023,2047,4095,4095,16383,32767,65535,4095,4095,266239,921599,1970175,4067327,8388607,16777215,33554431,67108863,67108863,268435455,536870911,1073741823,67108863,67108863,4362076159,15099494399,32279363583,66639101951,137438953471,274877906943]
theorem impl_JoinNotes.tab1 : rtab .any (opsOf Try.f40 1) = impl_JoinNotes.T1:=by kernel_rfl
theorem impl_JoinNotes.bits1 : waitsOk impl_JoinNotes.T1.2 impl_JoinNotes.B1 = true:=by kernel_rfl
set_option maxHeartbeats 8000000 in
set_option maxRecDepth 100000 in
theorem impl_JoinNotes.calls (k : Nat) (A0 : Option Addr) (c0 : Nat) (l0 : List (S58)) (a1 : Int) (r1 : List (S58)) (r2 : Bool) (w : World) (hr0 : Kd.C k58 w A0 l0.length l0) (hc0 : l0.length ≤ c0) (h : impl_JoinNotes.f k l0 a1 = some (r1,r2)) :
  Calls Try.prog 40 #[.slice A0 l0.length c0,.int .i64 a1] w fun e w' => ∃ v0_ : Value,e = .returned (.tuple #[v0_,.bool r2]) ∧ Kd.R k58 58 w' w.heap.size (fun _=>True) v0_ r1 ∧ Below w.heap.size w w' := by
 have HR0:=Aside0.mk hr0;have HC0:=Aside0.mk hc0;clear hr0 hc0;have HB:=Aside0.mk (Below.refl w.heap.size w);have H : ((impl_IsTier.f k l0).bind fun t101=>(if t101 = true then ((impl_within.f a1 0 (wrap64 ((l0.length : Int) - 2))).bind fun t102=>(if t102 = true then (if 0 ≤ a1 then (if a1 < (l0.length : Int) then (if 0 ≤ (wrap64 (a1 + 1)) then (if (wrap64 (a1 + 1)) < (l0.length : Int) then (if ((rd_T58 l0 a1).f1) = ((rd_T58 l0 (wrap64 (a1 + 1))).f0) then (impl_JoinNotes.j0 k l0 a1 (((rd_T58 l0 a1).f2).toList != ((rd_T58 l0 (wrap64 (a1 + 1))).f2).toList)) else (impl_JoinNotes.j0 k l0 a1 true)) else (none)) else (none)) else (none)) else (none)) else (impl_JoinNotes.j0 k l0 a1 true))) else (impl_JoinNotes.j0 k l0 a1 true))) = some (r1,r2):=h;clear h;have HC3:=Aside0.mk H;clear H;go_enter Try.func40,Try.ntmps40
 go_upto_region 1 with (fail)
 go_cut [45] (fun v45 wc=>∃ (kq : Nat) (x45_2 : Bool),v45 = .bool x45_2 ∧ Aside0 (impl_JoinNotes.j0 kq l0 a1 x45_2 = some (r1,r2)) ∧ Aside0 (kq ≤ k) ∧ Aside0 (Below w.heap.size w wc))
 case first =>
  have H:=HC3.out;clear HC3;replace H:=Option.bind_eq_some_iff.mp H;obtain ⟨t101,A40,H⟩:=H;(try dsimp only at H);have A4:=Aside0.mk A40;clear A40;by_cases c5 : t101 = true
  ·subst c5;have H1 : ((impl_within.f a1 0 (wrap64 ((l0.length : Int) - 2))).bind fun t102=>(if t102 = true then (if 0 ≤ a1 then (if a1 < (l0.length : Int) then (if 0 ≤ (wrap64 (a1 + 1)) then (if (wrap64 (a1 + 1)) < (l0.length : Int) then (if ((rd_T58 l0 a1).f1) = ((rd_T58 l0 (wrap64 (a1 + 1))).f0) then (impl_JoinNotes.j0 k l0 a1 (((rd_T58 l0 a1).f2).toList != ((rd_T58 l0 (wrap64 (a1 + 1))).f2).toList)) else (impl_JoinNotes.j0 k l0 a1 true)) else (none)) else (none)) else (none)) else (none)) else (impl_JoinNotes.j0 k l0 a1 true))) = some (r1,r2):=by rw [if_pos rfl] at H;exact H
   clear H;have H:=H1;clear H1;replace H:=Option.bind_eq_some_iff.mp H;obtain ⟨t102,A60,H⟩:=H;(try dsimp only at H);have A6:=Aside0.mk A60;clear A60;by_cases c7 : t102 = true
   ·subst c7;have H1 : (if 0 ≤ a1 then (if a1 < (l0.length : Int) then (if 0 ≤ (wrap64 (a1 + 1)) then (if (wrap64 (a1 + 1)) < (l0.length : Int) then (if ((rd_T58 l0 a1).f1) = ((rd_T58 l0 (wrap64 (a1 + 1))).f0) then (impl_JoinNotes.j0 k l0 a1 (((rd_T58 l0 a1).f2).toList != ((rd_T58 l0 (wrap64 (a1 + 1))).f2).toList)) else (impl_JoinNotes.j0 k l0 a1 true)) else (none)) else (none)) else (none)) else (none)) = some (r1,r2):=by rw [if_pos rfl] at H;exact H
    clear H;have H:=H1;clear H1;by_cases c8 : 0 ≤ a1
    ·rw [if_pos c8] at H;have c8b0 : decide (0 ≤ a1) = true:=decide_eq_true c8;clear c8
     (first | rw [c8b0] | (simp only [i64_w,i32_w];rw [c8b0]) | skip)
     by_cases c9 : a1 < (l0.length : Int)
     ·rw [if_pos c9] at H;have c9b0 : decide (a1 < (l0.length : Int)) = true:=decide_eq_true c9;clear c9;obtain ⟨ji10,hji10⟩ : ∃ j_ : Int,(wrap64 (a1 + 1)) = j_:=⟨_,rfl⟩;replace H : (if 0 ≤ (ji10) then (if (ji10) < (l0.length : Int) then (if ((rd_T58 l0 a1).f1) = ((rd_T58 l0 (ji10)).f0) then (impl_JoinNotes.j0 k l0 a1 (((rd_T58 l0 a1).f2).toList != ((rd_T58 l0 (ji10)).f2).toList)) else (impl_JoinNotes.j0 k l0 a1 true)) else (none)) else (none)) = some (r1,r2):=by first | (rw [hji10] at H;exact H) | (simp only [hji10] at H ⊢;exact H)
      (try rw [hji10] at A4)
      (try rw [hji10] at A6)
      have hji10w : (IntKind.i64.wrap (a1 + 1)) = ji10:=(i64_w _).trans hji10;by_cases c11 : 0 ≤ (ji10)
      ·rw [if_pos c11] at H;have c11b0 : decide (0 ≤ (ji10)) = true:=decide_eq_true c11;clear c11;by_cases c12 : (ji10) < (l0.length : Int)
       ·rw [if_pos c12] at H;have c12b0 : decide ((ji10) < (l0.length : Int)) = true:=decide_eq_true c12;clear c12;by_cases c13 : ((rd_T58 l0 a1).f1) = ((rd_T58 l0 (ji10)).f0)
        ·rw [if_pos c13] at H;have c13b0 : (((rd_T58 l0 a1).f1) == ((rd_T58 l0 (ji10)).f0)) = true:=beq_iff_eq.mpr c13;have c13b1 : (((rd_T58 l0 a1).f1) != ((rd_T58 l0 (ji10)).f0)) = false:=bne_eq_false_iff_eq.mpr c13;clear c13;have H' := Aside0.mk H;clear H;try go_wp2
         replace HB:=Aside0.mk (below_drew1 HB.out);have p103 : 0 ≤ (a1 : Int):=of_decide_eq_true (q3_);have q103 : a1 < (l0.length : Int):=of_decide_eq_true (q3_);obtain ⟨ad103,e103,hx103_0,hx103_1,hx103_2⟩:=at_T58 HR0.out a1 p103 q103;have hw103_2:=hx103_2;have hw103_1:=hx103_1;have hw103_0:=hx103_0;cases e103;replace hx103_0:=hB_ HB.out hx103_0;replace hx103_1:=hB_ HB.out hx103_1;replace hx103_2:=hB_ HB.out hx103_2;replace p103:=eq_true p103;replace q103:=eq_true q103;have p104 : 0 ≤ ((ji10) : Int):=of_decide_eq_true (q3_);have q104 : (ji10) < (l0.length : Int):=of_decide_eq_true (q3_);obtain ⟨ad104,e104,hx104_0,hx104_1,hx104_2⟩:=at_T58 HR0.out (ji10) p104 q104;have hw104_2:=hx104_2;have hw104_1:=hx104_1;have hw104_0:=hx104_0;obtain rfl : ad103 = ad104:=(by injection e104);replace hx104_0:=hB_ HB.out hx104_0;replace hx104_1:=hB_ HB.out hx104_1;replace hx104_2:=hB_ HB.out hx104_2;replace p104:=eq_true p104;replace q104:=eq_true q104;have p105 : 0 ≤ (a1 : Int):=of_decide_eq_true (q3_);have q105 : a1 < (l0.length : Int):=of_decide_eq_true (q3_);obtain ⟨ad105,e105,hx105_0,hx105_1,hx105_2⟩:=at_T58 HR0.out a1 p105 q105;have hw105_2:=hx105_2;have hw105_1:=hx105_1;have hw105_0:=hx105_0;obtain rfl : ad103 = ad105:=(by injection e105);replace hx105_0:=hB_ HB.out hx105_0;replace hx105_1:=hB_ HB.out hx105_1;replace hx105_2:=hB_ HB.out hx105_2;replace p105:=eq_true p105;replace q105:=eq_true q105;have p106 : 0 ≤ ((ji10) : Int):=of_decide_eq_true (q3_);have q106 : (ji10) < (l0.length : Int):=of_decide_eq_true (q3_);obtain ⟨ad106,e106,hx106_0,hx106_1,hx106_2⟩:=at_T58 HR0.out (ji10) p106 q106;have hw106_2:=hx106_2;have hw106_1:=hx106_1;have hw106_0:=hx106_0;obtain rfl : ad103 = ad106:=(by injection e106);replace hx106_0:=hB_ HB.out hx106_0;replace hx106_1:=hB_ HB.out hx106_1;replace hx106_2:=hB_ HB.out hx106_2;replace p106:=eq_true p106;replace q106:=eq_true q106;refine start_ (n:=39) (S:=fun w' => w'.cell? (ad103.add ((a1).toNat * 3)) = some (.int .i64 ((rd_T58 l0 a1).f0)) ∧ w'.cell? ⟨(ad103.add ((a1).toNat * 3)).block,(ad103.add ((a1).toNat * 3)).off + 1,none⟩ = some (.int .i64 ((rd_T58 l0 a1).f1)) ∧ w'.cell? ⟨(ad103.add ((a1).toNat * 3)).block,(ad103.add ((a1).toNat * 3)).off + 2,none⟩ = some (.string ((rd_T58 l0 a1).f2)) ∧ w'.cell? (ad103.add (((ji10)).toNat * 3)) = some (.int .i64 ((rd_T58 l0 (ji10)).f0)) ∧ w'.cell? ⟨(ad103.add (((ji10)).toNat * 3)).block,(ad103.add (((ji10)).toNat * 3)).off + 1,none⟩ = some (.int .i64 ((rd_T58 l0 (ji10)).f1)) ∧ w'.cell? ⟨(ad103.add (((ji10)).toNat * 3)).block,(ad103.add (((ji10)).toNat * 3)).off + 2,none⟩ = some (.string ((rd_T58 l0 (ji10)).f2)) ∧ w'.cell? (ad103.add ((a1).toNat * 3)) = some (.int .i64 ((rd_T58 l0 a1).f0)) ∧ w'.cell? ⟨(ad103.add ((a1).toNat * 3)).block,(ad103.add ((a1).toNat * 3)).off + 1,none⟩ = some (.int .i64 ((rd_T58 l0 a1).f1)) ∧ w'.cell? ⟨(ad103.add ((a1).toNat * 3)).block,(ad103.add ((a1).toNat * 3)).off + 2,none⟩ = some (.string ((rd_T58 l0 a1).f2)) ∧ w'.cell? (ad103.add (((ji10)).toNat * 3)) = some (.int .i64 ((rd_T58 l0 (ji10)).f0)) ∧ w'.cell? ⟨(ad103.add (((ji10)).toNat * 3)).block,(ad103.add (((ji10)).toNat * 3)).off + 1,none⟩ = some (.int .i64 ((rd_T58 l0 (ji10)).f1)) ∧ w'.cell? ⟨(ad103.add (((ji10)).toNat * 3)).block,(ad103.add (((ji10)).toNat * 3)).off + 2,none⟩ = some (.string ((rd_T58 l0 (ji10)).f2))) (ds:=[]) f0_ (by kernel_rfl) rfl rfl ⟨((HB.out.cell (World.block_lt_of_cell? w _ hw103_0)).trans hw103_0),((HB.out.cell (World.block_lt_of_cell? w _ hw103_1)).trans hw103_1),((HB.out.cell (World.block_lt_of_cell? w _ hw103_2)).trans hw103_2),((HB.out.cell (World.block_lt_of_cell? w _ hw104_0)).trans hw104_0),((HB.out.cell (World.block_lt_of_cell? w _ hw104_1)).trans hw104_1),((HB.out.cell (World.block_lt_of_cell? w _ hw104_2)).trans hw104_2),((HB.out.cell (World.block_lt_of_cell? w _ hw105_0)).trans hw105_0),((HB.out.cell (World.block_lt_of_cell? w _ hw105_1)).trans hw105_1),((HB.out.cell (World.block_lt_of_cell? w _ hw105_2)).trans hw105_2),((HB.out.cell (World.block_lt_of_cell? w _ hw106_0)).trans hw106_0),((HB.out.cell (World.block_lt_of_cell? w _ hw106_1)).trans hw106_1),((HB.out.cell (World.block_lt_of_cell? w _ hw106_2)).trans hw106_2)⟩ (fun hHeld=>?_);refine with_tabW impl_JoinNotes.tab1 impl_JoinNotes.bits1 (fun HT_ HW_=>?_);generalize w.drew = w14 at HB hx103_0 hx103_1 hx103_2 hx104_0 hx104_1 hx104_2 hx105_0 hx105_1 hx105_2 hx106_0 hx106_1 hx106_2 hHeld ⊢;refine pure_ (i:=0) (N:=some 7) (v:=?_) (a' := ?_) f1_ rfl rfl (any_of HT_.out (by kernel_rfl)) (fun _ _ _ h=>h) (Or.inl ⟨by rfl,?_⟩) ?_ ?_;rotate_left
         ·intro w';go_simp;with_reducible rfl
         rotate_left
         ·exact q46_
         refine one_ (i:=1) (N:=some 8) f2_ rfl rfl (one_of HT_.out (by kernel_rfl)) (by decide) (fun K hK=>?_);refine goes_ Try.func46 (by kernel_rfl) rfl #[.slice _ l0.length c0] (by rfl) rfl rfl (q18_) ?_
         with_reducible refine (impl_IsTier.calls k _ _ l0 true _ ?side1 ?side2 A4.out).mono ?_
         (case side1=>exact cX_ (Kd.C_below HR0.out HB.out))
         (case side2=>exact HC0.out)
         rintro e w15 ⟨rfl,hb⟩;refine ⟨_,rfl,?_⟩;replace HB:=bS_ HB hb
         (try clear hb)
         (try clear hb2)
         (try clear hk)
         (try clear hi)
         refine hK.out _ _ ⟨((HB.out.cell (World.block_lt_of_cell? w _ hw103_0)).trans hw103_0),((HB.out.cell (World.block_lt_of_cell? w _ hw103_1)).trans hw103_1),((HB.out.cell (World.block_lt_of_cell? w _ hw103_2)).trans hw103_2),((HB.out.cell (World.block_lt_of_cell? w _ hw104_0)).trans hw104_0),((HB.out.cell (World.block_lt_of_cell? w _ hw104_1)).trans hw104_1),((HB.out.cell (World.block_lt_of_cell? w _ hw104_2)).trans hw104_2),((HB.out.cell (World.block_lt_of_cell? w _ hw105_0)).trans hw105_0),((HB.out.cell (World.block_lt_of_cell? w _ hw105_1)).trans hw105_1),((HB.out.cell (World.block_lt_of_cell? w _ hw105_2)).trans hw105_2),((HB.out.cell (World.block_lt_of_cell? w _ hw106_0)).trans hw106_0),((HB.out.cell (World.block_lt_of_cell? w _ hw106_1)).trans hw106_1),((HB.out.cell (World.block_lt_of_cell? w _ hw106_2)).trans hw106_2)⟩ (fun hHeld=>?_);clear hK K;refine norm_ (a' := ?_) ?_ ?_;rotate_left
         ·show Act.put _ (some 8) _ = _;simp only [Act.put,List.setIfInBounds_toArray,List.set_cons_zero,List.set_cons_succ,i64_w,i32_w];rfl
         refine pa_ 2 9 f3_ ?_
         refine pa_ 3 10 f4_ ?_
         refine pa_ 4 11 f5_ ?_
         refine pa_ 5 12 f6_ ?_
         refine pa_ 6 13 f7_ ?_
         refine pa_ 7 14 f8_ ?_
         refine one_ (i:=8) (N:=some 15) f9_ rfl rfl (one_of HT_.out (by kernel_rfl)) (by decide) (fun K hK=>?_);refine goes_ Try.func132 (by kernel_rfl) rfl #[.int .i64 a1,.int .i64 0,.int .i64 (wrap64 ((l0.length : Int) - 2))] (by rfl) rfl rfl (q18_) ?_
         with_reducible refine (impl_within.calls a1 0 (wrap64 ((l0.length : Int) - 2)) true _ A6.out).mono ?_
         rintro e w' ⟨rfl,⟨nd,rfl⟩⟩;refine ⟨_,rfl,?_⟩;refine hK.out _ _ ⟨((HB.out.cell (World.block_lt_of_cell? w _ hw103_0)).trans hw103_0),((HB.out.cell (World.block_lt_of_cell? w _ hw103_1)).trans hw103_1),((HB.out.cell (World.block_lt_of_cell? w _ hw103_2)).trans hw103_2),((HB.out.cell (World.block_lt_of_cell? w _ hw104_0)).trans hw104_0),((HB.out.cell (World.block_lt_of_cell? w _ hw104_1)).trans hw104_1),((HB.out.cell (World.block_lt_of_cell? w _ hw104_2)).trans hw104_2),((HB.out.cell (World.block_lt_of_cell? w _ hw105_0)).trans hw105_0),((HB.out.cell (World.block_lt_of_cell? w _ hw105_1)).trans hw105_1),((HB.out.cell (World.block_lt_of_cell? w _ hw105_2)).trans hw105_2),((HB.out.cell (World.block_lt_of_cell? w _ hw106_0)).trans hw106_0),((HB.out.cell (World.block_lt_of_cell? w _ hw106_1)).trans hw106_1),((HB.out.cell (World.block_lt_of_cell? w _ hw106_2)).trans hw106_2)⟩ (fun hHeld=>?_);clear hK K;refine norm_ (a' := ?_) ?_ ?_;rotate_left
         ·show Act.put _ (some 15) _ = _;simp only [Act.put,List.setIfInBounds_toArray,List.set_cons_zero,List.set_cons_succ,i64_w,i32_w];rfl
         refine pa_ 9 16 f10_ ?_
         refine pa_ 10 17 f11_ ?_
         refine pa_ 11 18 f12_ ?_
         refine pa_ 12 19 f13_ ?_
         refine pa_ 13 20 f14_ ?_
         refine pa_ 14 21 f15_ ?_
         refine pa_ 15 22 f16_ ?_
         refine pa_ 17 24 f17_ ?_
         refine pa_ 18 25 f18_ ?_
         refine pa_ 19 26 f19_ ?_
         refine pa_ 20 27 f20_ ?_
         refine pa_ 21 28 f21_ ?_
         refine take_ (i:=16) (N:=some 23) (v:=?_) (a' := ?_) f22_ rfl rfl (take_ofW HT_.out HW_.out (by kernel_rfl)) (fun _ _ _ h=>h) (Or.inl ⟨by rfl,?_⟩) hHeld ?_ ?_;rotate_left
         ·rintro w' ⟨s0,s1,s2,s3,s4,s5,s6,s7,s8,s9,s10,s11⟩;go_simp;with_reducible rfl
         rotate_left
         ·exact q46_
         refine take_ (i:=22) (N:=some 29) (v:=?_) (a' := ?_) f23_ rfl rfl (take_ofW HT_.out HW_.out (by kernel_rfl)) (fun _ _ _ h=>h) (Or.inl ⟨by rfl,?_⟩) hHeld ?_ ?_;rotate_left
         ·rintro w' ⟨s0,s1,s2,s3,s4,s5,s6,s7,s8,s9,s10,s11⟩;go_simp;with_reducible rfl
         rotate_left
         ·exact q46_
         refine pa_ 23 30 f24_ ?_
         refine pa_ 24 31 f25_ ?_
         refine pa_ 25 32 f26_ ?_
         refine pa_ 26 33 f27_ ?_
         refine pa_ 27 34 f28_ ?_
         refine pa_ 28 35 f29_ ?_
         refine pa_ 29 36 f30_ ?_
         refine pa_ 31 38 f31_ ?_
         refine pa_ 32 39 f32_ ?_
         refine pa_ 33 40 f33_ ?_
         refine pa_ 34 41 f34_ ?_
         refine pa_ 35 42 f35_ ?_
         refine take_ (i:=30) (N:=some 37) (v:=?_) (a' := ?_) f36_ rfl rfl (take_ofW HT_.out HW_.out (by kernel_rfl)) (fun _ _ _ h=>h) (Or.inl ⟨by rfl,?_⟩) hHeld ?_ ?_;rotate_left
         ·rintro w' ⟨s0,s1,s2,s3,s4,s5,s6,s7,s8,s9,s10,s11⟩;go_simp;with_reducible rfl
         rotate_left
         ·exact q46_
         refine take_ (i:=36) (N:=some 43) (v:=?_) (a' := ?_) f37_ rfl rfl (take_ofW HT_.out HW_.out (by kernel_rfl)) (fun _ _ _ h=>h) (Or.inl ⟨by rfl,?_⟩) hHeld ?_ ?_;rotate_left
         ·rintro w' ⟨s0,s1,s2,s3,s4,s5,s6,s7,s8,s9,s10,s11⟩;go_simp;with_reducible rfl
         rotate_left
         ·exact q46_
         refine pa_ 37 44 f38_ ?_
         refine pa_ 38 45 f39_ ?_
         refine done_ (done_of HT_.out (by kernel_rfl)) ?_;try go_wp2
         go_meet
         case rel=>exact ⟨_,((((rd_T58 l0 a1).f2).toList != ((rd_T58 l0 (ji10)).f2).toList)),(by first | rfl | (simp;done) | (simp only [← hji10] <;> (first | rfl | simp)) | (simp [*];done)),H', ⟨q1_⟩,⟨q17_⟩⟩
        ·rw [if_neg c13] at H;have c13b0 : (((rd_T58 l0 a1).f1) == ((rd_T58 l0 (ji10)).f0)) = false:=beq_eq_false_iff_ne.mpr c13;have c13b1 : (((rd_T58 l0 a1).f1) != ((rd_T58 l0 (ji10)).f0)) = true:=bne_iff_ne.mpr c13;have H' := Aside0.mk H;clear H;try go_wp2
         replace HB:=Aside0.mk (below_drew1 HB.out);have p103 : 0 ≤ (a1 : Int):=of_decide_eq_true (q3_);have q103 : a1 < (l0.length : Int):=of_decide_eq_true (q3_);obtain ⟨ad103,e103,hx103_0,hx103_1,hx103_2⟩:=at_T58 HR0.out a1 p103 q103;have hw103_2:=hx103_2;have hw103_1:=hx103_1;have hw103_0:=hx103_0;cases e103;replace hx103_0:=hB_ HB.out hx103_0;replace hx103_1:=hB_ HB.out hx103_1;replace hx103_2:=hB_ HB.out hx103_2;replace p103:=eq_true p103;replace q103:=eq_true q103;have p104 : 0 ≤ ((ji10) : Int):=of_decide_eq_true (q3_);have q104 : (ji10) < (l0.length : Int):=of_decide_eq_true (q3_);obtain ⟨ad104,e104,hx104_0,hx104_1,hx104_2⟩:=at_T58 HR0.out (ji10) p104 q104;have hw104_2:=hx104_2;have hw104_1:=hx104_1;have hw104_0:=hx104_0;obtain rfl : ad103 = ad104:=(by injection e104);replace hx104_0:=hB_ HB.out hx104_0;replace hx104_1:=hB_ HB.out hx104_1;replace hx104_2:=hB_ HB.out hx104_2;replace p104:=eq_true p104;replace q104:=eq_true q104;refine start_ (n:=39) (S:=fun w' => w'.cell? (ad103.add ((a1).toNat * 3)) = some (.int .i64 ((rd_T58 l0 a1).f0)) ∧ w'.cell? ⟨(ad103.add ((a1).toNat * 3)).block,(ad103.add ((a1).toNat * 3)).off + 1,none⟩ = some (.int .i64 ((rd_T58 l0 a1).f1)) ∧ w'.cell? ⟨(ad103.add ((a1).toNat * 3)).block,(ad103.add ((a1).toNat * 3)).off + 2,none⟩ = some (.string ((rd_T58 l0 a1).f2)) ∧ w'.cell? (ad103.add (((ji10)).toNat * 3)) = some (.int .i64 ((rd_T58 l0 (ji10)).f0)) ∧ w'.cell? ⟨(ad103.add (((ji10)).toNat * 3)).block,(ad103.add (((ji10)).toNat * 3)).off + 1,none⟩ = some (.int .i64 ((rd_T58 l0 (ji10)).f1)) ∧ w'.cell? ⟨(ad103.add (((ji10)).toNat * 3)).block,(ad103.add (((ji10)).toNat * 3)).off + 2,none⟩ = some (.string ((rd_T58 l0 (ji10)).f2))) (ds:=[]) f0_ (by kernel_rfl) rfl rfl ⟨((HB.out.cell (World.block_lt_of_cell? w _ hw103_0)).trans hw103_0),((HB.out.cell (World.block_lt_of_cell? w _ hw103_1)).trans hw103_1),((HB.out.cell (World.block_lt_of_cell? w _ hw103_2)).trans hw103_2),((HB.out.cell (World.block_lt_of_cell? w _ hw104_0)).trans hw104_0),((HB.out.cell (World.block_lt_of_cell? w _ hw104_1)).trans hw104_1),((HB.out.cell (World.block_lt_of_cell? w _ hw104_2)).trans hw104_2)⟩ (fun hHeld=>?_);refine with_tabW impl_JoinNotes.tab1 impl_JoinNotes.bits1 (fun HT_ HW_=>?_);generalize w.drew = w16 at HB hx103_0 hx103_1 hx103_2 hx104_0 hx104_1 hx104_2 hHeld ⊢;refine pure_ (i:=0) (N:=some 7) (v:=?_) (a' := ?_) f1_ rfl rfl (any_of HT_.out (by kernel_rfl)) (fun _ _ _ h=>h) (Or.inl ⟨by rfl,?_⟩) ?_ ?_;rotate_left
         ·intro w';go_simp;with_reducible rfl
         rotate_left
         ·exact q46_
         refine one_ (i:=1) (N:=some 8) f2_ rfl rfl (one_of HT_.out (by kernel_rfl)) (by decide) (fun K hK=>?_);refine goes_ Try.func46 (by kernel_rfl) rfl #[.slice _ l0.length c0] (by rfl) rfl rfl (q18_) ?_
         with_reducible refine (impl_IsTier.calls k _ _ l0 true _ ?side1 ?side2 A4.out).mono ?_
         (case side1=>exact cX_ (Kd.C_below HR0.out HB.out))
         (case side2=>exact HC0.out)
         rintro e w17 ⟨rfl,hb⟩;refine ⟨_,rfl,?_⟩;replace HB:=bS_ HB hb
         (try clear hb)
         (try clear hb2)
         (try clear hk)
         (try clear hi)
         refine hK.out _ _ ⟨((HB.out.cell (World.block_lt_of_cell? w _ hw103_0)).trans hw103_0),((HB.out.cell (World.block_lt_of_cell? w _ hw103_1)).trans hw103_1),((HB.out.cell (World.block_lt_of_cell? w _ hw103_2)).trans hw103_2),((HB.out.cell (World.block_lt_of_cell? w _ hw104_0)).trans hw104_0),((HB.out.cell (World.block_lt_of_cell? w _ hw104_1)).trans hw104_1),((HB.out.cell (World.block_lt_of_cell? w _ hw104_2)).trans hw104_2)⟩ (fun hHeld=>?_);clear hK K;refine norm_ (a' := ?_) ?_ ?_;rotate_left
         ·show Act.put _ (some 8) _ = _;simp only [Act.put,List.setIfInBounds_toArray,List.set_cons_zero,List.set_cons_succ,i64_w,i32_w];rfl
         refine pa_ 2 9 f3_ ?_
         refine pa_ 3 10 f4_ ?_
         refine pa_ 4 11 f5_ ?_
         refine pa_ 5 12 f6_ ?_
         refine pa_ 6 13 f7_ ?_
         refine pa_ 7 14 f8_ ?_
         refine one_ (i:=8) (N:=some 15) f9_ rfl rfl (one_of HT_.out (by kernel_rfl)) (by decide) (fun K hK=>?_);refine goes_ Try.func132 (by kernel_rfl) rfl #[.int .i64 a1,.int .i64 0,.int .i64 (wrap64 ((l0.length : Int) - 2))] (by rfl) rfl rfl (q18_) ?_
         with_reducible refine (impl_within.calls a1 0 (wrap64 ((l0.length : Int) - 2)) true _ A6.out).mono ?_
         rintro e w' ⟨rfl,⟨nd,rfl⟩⟩;refine ⟨_,rfl,?_⟩;refine hK.out _ _ ⟨((HB.out.cell (World.block_lt_of_cell? w _ hw103_0)).trans hw103_0),((HB.out.cell (World.block_lt_of_cell? w _ hw103_1)).trans hw103_1),((HB.out.cell (World.block_lt_of_cell? w _ hw103_2)).trans hw103_2),((HB.out.cell (World.block_lt_of_cell? w _ hw104_0)).trans hw104_0),((HB.out.cell (World.block_lt_of_cell? w _ hw104_1)).trans hw104_1),((HB.out.cell (World.block_lt_of_cell? w _ hw104_2)).trans hw104_2)⟩ (fun hHeld=>?_);clear hK K;refine norm_ (a' := ?_) ?_ ?_;rotate_left
         ·show Act.put _ (some 15) _ = _;simp only [Act.put,List.setIfInBounds_toArray,List.set_cons_zero,List.set_cons_succ,i64_w,i32_w];rfl
         refine pa_ 9 16 f10_ ?_
         refine pa_ 10 17 f11_ ?_
         refine pa_ 11 18 f12_ ?_
         refine pa_ 12 19 f13_ ?_
         refine pa_ 13 20 f14_ ?_
         refine pa_ 14 21 f15_ ?_
         refine pa_ 15 22 f16_ ?_
         refine pa_ 17 24 f17_ ?_
         refine pa_ 18 25 f18_ ?_
         refine pa_ 19 26 f19_ ?_
         refine pa_ 20 27 f20_ ?_
         refine pa_ 21 28 f21_ ?_
         refine take_ (i:=16) (N:=some 23) (v:=?_) (a' := ?_) f22_ rfl rfl (take_ofW HT_.out HW_.out (by kernel_rfl)) (fun _ _ _ h=>h) (Or.inl ⟨by rfl,?_⟩) hHeld ?_ ?_;rotate_left
         ·rintro w' ⟨s0,s1,s2,s3,s4,s5⟩;go_simp;with_reducible rfl
         rotate_left
         ·exact q46_
         refine take_ (i:=22) (N:=some 29) (v:=?_) (a' := ?_) f23_ rfl rfl (take_ofW HT_.out HW_.out (by kernel_rfl)) (fun _ _ _ h=>h) (Or.inl ⟨by rfl,?_⟩) hHeld ?_ ?_;rotate_left
         ·rintro w' ⟨s0,s1,s2,s3,s4,s5⟩;go_simp;with_reducible rfl
         rotate_left
         ·exact q46_
         refine pa_ 23 30 f24_ ?_
         refine pa_ 24 31 f25_ ?_
         refine pa_ 25 32 f26_ ?_
         refine pu_ 26 33 f27_ ?_
         refine pu_ 27 34 f28_ ?_
         refine pu_ 28 35 f29_ ?_
         refine pu_ 29 36 f30_ ?_
         refine pu_ 30 37 f58_ ?_
         refine pu_ 31 38 f59_ ?_
         refine pu_ 32 39 f60_ ?_
         refine pu_ 33 40 f61_ ?_
         refine pu_ 34 41 f62_ ?_
         refine pu_ 35 42 f36_ ?_
         refine pu_ 36 43 f37_ ?_
         refine pu_ 37 44 f38_ ?_
         refine pa_ 38 45 f39_ ?_
         refine done_ (done_of HT_.out (by kernel_rfl)) ?_;try go_wp2
         go_meet
         case rel=>exact ⟨_,(true),(q2_),H', ⟨q1_⟩,⟨q17_⟩⟩
       ·rw [if_neg c12] at H;exact absurd H (by simp)
      ·rw [if_neg c11] at H;exact absurd H (by simp)
     ·rw [if_neg c9] at H;exact absurd H (by simp)
    ·rw [if_neg c8] at H;exact absurd H (by simp)
   ·replace c7:=Bool.eq_false_iff.mpr c7;subst c7;have H1 : (impl_JoinNotes.j0 k l0 a1 true) = some (r1,r2):=by rw [if_neg (show ¬ (false = true) by decide)] at H;exact H
    clear H;have H:=H1;clear H1;have H' := Aside0.mk H;clear H;try go_wp2
    replace HB:=Aside0.mk (below_drew1 HB.out);refine start_ (n:=39) (S:=fun w' => True) (ds:=[]) f0_ (by kernel_rfl) rfl rfl trivial (fun hHeld=>?_);refine with_tabW impl_JoinNotes.tab1 impl_JoinNotes.bits1 (fun HT_ HW_=>?_);generalize w.drew = w18 at HB hHeld ⊢;refine pure_ (i:=0) (N:=some 7) (v:=?_) (a' := ?_) f1_ rfl rfl (any_of HT_.out (by kernel_rfl)) (fun _ _ _ h=>h) (Or.inl ⟨by rfl,?_⟩) ?_ ?_;rotate_left
    ·intro w';go_simp;with_reducible rfl
    rotate_left
    ·exact q46_
    refine one_ (i:=1) (N:=some 8) f2_ rfl rfl (one_of HT_.out (by kernel_rfl)) (by decide) (fun K hK=>?_);refine goes_ Try.func46 (by kernel_rfl) rfl #[.slice _ l0.length c0] (by rfl) rfl rfl (q18_) ?_
    with_reducible refine (impl_IsTier.calls k _ _ l0 true _ ?side1 ?side2 A4.out).mono ?_
    (case side1=>exact cX_ (Kd.C_below HR0.out HB.out))
    (case side2=>exact HC0.out)
    rintro e w19 ⟨rfl,hb⟩;refine ⟨_,rfl,?_⟩;replace HB:=bS_ HB hb
    (try clear hb)
    (try clear hb2)
    (try clear hk)
    (try clear hi)
    refine hK.out _ _ trivial (fun hHeld=>?_);clear hK K;refine norm_ (a' := ?_) ?_ ?_;rotate_left
    ·show Act.put _ (some 8) _ = _;simp only [Act.put,List.setIfInBounds_toArray,List.set_cons_zero,List.set_cons_succ,i64_w,i32_w];rfl
    refine pa_ 2 9 f3_ ?_
    refine pa_ 3 10 f4_ ?_
    refine pa_ 4 11 f5_ ?_
    refine pa_ 5 12 f6_ ?_
    refine pa_ 6 13 f7_ ?_
    refine pa_ 7 14 f8_ ?_
    refine one_ (i:=8) (N:=some 15) f9_ rfl rfl (one_of HT_.out (by kernel_rfl)) (by decide) (fun K hK=>?_);refine goes_ Try.func132 (by kernel_rfl) rfl #[.int .i64 a1,.int .i64 0,.int .i64 (wrap64 ((l0.length : Int) - 2))] (by rfl) rfl rfl (q18_) ?_
    with_reducible refine (impl_within.calls a1 0 (wrap64 ((l0.length : Int) - 2)) false _ A6.out).mono ?_
    rintro e w' ⟨rfl,⟨nd,rfl⟩⟩;refine ⟨_,rfl,?_⟩;refine hK.out _ _ trivial (fun hHeld=>?_);clear hK K;refine norm_ (a' := ?_) ?_ ?_;rotate_left
    ·show Act.put _ (some 15) _ = _;simp only [Act.put,List.setIfInBounds_toArray,List.set_cons_zero,List.set_cons_succ,i64_w,i32_w];rfl
    refine pa_ 9 16 f10_ ?_
    refine pa_ 10 17 f11_ ?_
    refine pa_ 11 18 f12_ ?_
    refine pu_ 12 19 f13_ ?_
    refine pu_ 13 20 f14_ ?_
    refine pu_ 14 21 f15_ ?_
    refine pu_ 15 22 f16_ ?_
    refine pu_ 16 23 f63_ ?_
    refine pu_ 17 24 f64_ ?_
    refine pu_ 18 25 f65_ ?_
    refine pu_ 19 26 f66_ ?_
    refine pu_ 20 27 f67_ ?_
    refine pu_ 21 28 f22_ ?_
    refine pu_ 22 29 f23_ ?_
    refine pu_ 23 30 f24_ ?_
    refine pa_ 24 31 f25_ ?_
    refine pa_ 25 32 f26_ ?_
    refine pu_ 26 33 f27_ ?_
    refine pu_ 27 34 f28_ ?_
    refine pu_ 28 35 f29_ ?_
    refine pu_ 29 36 f30_ ?_
    refine pu_ 30 37 f58_ ?_
    refine pu_ 31 38 f59_ ?_
    refine pu_ 32 39 f60_ ?_
    refine pu_ 33 40 f61_ ?_
    refine pu_ 34 41 f62_ ?_
    refine pu_ 35 42 f36_ ?_
    refine pu_ 36 43 f37_ ?_
    refine pu_ 37 44 f38_ ?_
    refine pa_ 38 45 f39_ ?_
    refine done_ (done_of HT_.out (by kernel_rfl)) ?_;try go_wp2
    go_meet
    case rel=>exact ⟨_,(true),(q2_),H', ⟨q1_⟩,⟨q17_⟩⟩
  ·replace c5:=Bool.eq_false_iff.mpr c5;subst c5;have H1 : (impl_JoinNotes.j0 k l0 a1 true) = some (r1,r2):=by rw [if_neg (show ¬ (false = true) by decide)] at H;exact H
   clear H;have H:=H1;clear H1;have H' := Aside0.mk H;clear H;try go_wp2
   replace HB:=Aside0.mk (below_drew1 HB.out);refine start_ (n:=39) (S:=fun w' => True) (ds:=[]) f0_ (by kernel_rfl) rfl rfl trivial (fun hHeld=>?_);refine with_tabW impl_JoinNotes.tab1 impl_JoinNotes.bits1 (fun HT_ HW_=>?_);generalize w.drew = w20 at HB hHeld ⊢;refine pure_ (i:=0) (N:=some 7) (v:=?_) (a' := ?_) f1_ rfl rfl (any_of HT_.out (by kernel_rfl)) (fun _ _ _ h=>h) (Or.inl ⟨by rfl,?_⟩) ?_ ?_;rotate_left
   ·intro w';go_simp;with_reducible rfl
   rotate_left
   ·exact q46_
   refine one_ (i:=1) (N:=some 8) f2_ rfl rfl (one_of HT_.out (by kernel_rfl)) (by decide) (fun K hK=>?_);refine goes_ Try.func46 (by kernel_rfl) rfl #[.slice _ l0.length c0] (by rfl) rfl rfl (q18_) ?_
   with_reducible refine (impl_IsTier.calls k _ _ l0 false _ ?side1 ?side2 A4.out).mono ?_
   (case side1=>exact cX_ (Kd.C_below HR0.out HB.out))
   (case side2=>exact HC0.out)
   rintro e w21 ⟨rfl,hb⟩;refine ⟨_,rfl,?_⟩;replace HB:=bS_ HB hb
   (try clear hb)
   (try clear hb2)
   (try clear hk)
   (try clear hi)
   refine hK.out _ _ trivial (fun hHeld=>?_);clear hK K;refine norm_ (a' := ?_) ?_ ?_;rotate_left
   ·show Act.put _ (some 8) _ = _;simp only [Act.put,List.setIfInBounds_toArray,List.set_cons_zero,List.set_cons_succ,i64_w,i32_w];rfl
   refine pa_ 2 9 f3_ ?_
   refine pa_ 3 10 f4_ ?_
   refine pu_ 4 11 f5_ ?_
   refine pu_ 5 12 f6_ ?_
   refine pu_ 6 13 f7_ ?_
   refine pu_ 7 14 f8_ ?_
   refine pu_ 8 15 f9_ ?_
   refine pu_ 9 16 f10_ ?_
   refine pa_ 10 17 f11_ ?_
   refine pa_ 11 18 f12_ ?_
   refine pu_ 12 19 f13_ ?_
   refine pu_ 13 20 f14_ ?_
   refine pu_ 14 21 f15_ ?_
   refine pu_ 15 22 f16_ ?_
   refine pu_ 16 23 f63_ ?_
   refine pu_ 17 24 f64_ ?_
   refine pu_ 18 25 f65_ ?_
   refine pu_ 19 26 f66_ ?_
   refine pu_ 20 27 f67_ ?_
   refine pu_ 21 28 f22_ ?_
   refine pu_ 22 29 f23_ ?_
   refine pu_ 23 30 f24_ ?_
   refine pa_ 24 31 f25_ ?_
   refine pa_ 25 32 f26_ ?_
   refine pu_ 26 33 f27_ ?_
   refine pu_ 27 34 f28_ ?_
   refine pu_ 28 35 f29_ ?_
   refine pu_ 29 36 f30_ ?_
   refine pu_ 30 37 f58_ ?_
   refine pu_ 31 38 f59_ ?_
   refine pu_ 32 39 f60_ ?_
   refine pu_ 33 40 f61_ ?_
   refine pu_ 34 41 f62_ ?_
   refine pu_ 35 42 f36_ ?_
   refine pu_ 36 43 f37_ ?_
   refine pu_ 37 44 f38_ ?_
   refine pa_ 38 45 f39_ ?_
   refine done_ (done_of HT_.out (by kernel_rfl)) ?_;try go_wp2
   go_meet
   case rel=>exact ⟨_,(true),(q2_),H', ⟨q1_⟩,⟨q17_⟩⟩
 case rest =>
  clear HC3;try clear c5
  try clear c7
  try clear c8
  try clear c9
  try clear c11
  try clear c12
  try clear c13
  obtain ⟨kq,x45_2,rfl,HA,HJ2,HB⟩:=hcut;cases kq with
  | zero=>exact absurd HA.out (by simp [impl_JoinNotes.j0])
  | succ kj2 =>
   have H:=HA.out;clear HA;simp only [impl_JoinNotes.j0] at H;by_cases c22 : x45_2 = true
   ·subst c22;have H1 : (some (([] : List (S58)),false)) = some (r1,r2):=by rw [if_pos rfl] at H;exact H
    clear H;have H:=H1;clear H1;simp only [Option.some.injEq,Prod.mk.injEq] at H;obtain ⟨rfl,rfl⟩:=H;go_wp2;go_ret2
    exact ⟨_,q5_,q19_,q17_⟩
   ·replace c22:=Bool.eq_false_iff.mpr c22;subst c22;have H1 : ((slices_Clone_Note.f l0).bind fun t107=>((slices_Delete_Note.f t107 (wrap64 (a1 + 1)) (wrap64 (a1 + 2))).bind fun t110=>(if 0 ≤ (wrap64 (a1 + 1)) then (if (wrap64 (a1 + 1)) < (l0.length : Int) then (if 0 ≤ a1 then (if a1 < (t110.length : Int) then (some ((t110.set (a1 : Int).toNat (⟨(rd_T58 t110 a1).f0,(rd_T58 l0 (wrap64 (a1 + 1))).f1,(rd_T58 t110 a1).f2⟩ : S58)),true)) else (none)) else (none)) else (none)) else (none)))) = some (r1,r2):=by rw [if_neg (show ¬ (false = true) by decide)] at H;exact H
    clear H;have H:=H1;clear H1;replace H:=Option.bind_eq_some_iff.mp H;obtain ⟨t107,A230,H⟩:=H;(try dsimp only at H);have A23:=Aside0.mk A230;clear A230;replace H:=Option.bind_eq_some_iff.mp H;obtain ⟨t110,A240,H⟩:=H;(try dsimp only at H);have A24:=Aside0.mk A240;clear A240;obtain ⟨ji25,hji25⟩ : ∃ j_ : Int,(wrap64 (a1 + 1)) = j_:=⟨_,rfl⟩;replace H : (if 0 ≤ (ji25) then (if (ji25) < (l0.length : Int) then (if 0 ≤ a1 then (if a1 < (t110.length : Int) then (some ((t110.set (a1 : Int).toNat (⟨(rd_T58 t110 a1).f0,(rd_T58 l0 (ji25)).f1,(rd_T58 t110 a1).f2⟩ : S58)),true)) else (none)) else (none)) else (none)) else (none)) = some (r1,r2):=by first | (rw [hji25] at H;exact H) | (simp only [hji25] at H ⊢;exact H)
    (try rw [hji25] at A23)
    (try rw [hji25] at A24)
    have hji25w : (IntKind.i64.wrap (a1 + 1)) = ji25:=(i64_w _).trans hji25;by_cases c26 : 0 ≤ (ji25)
    ·rw [if_pos c26] at H;have c26b0 : decide (0 ≤ (ji25)) = true:=decide_eq_true c26;clear c26;by_cases c27 : (ji25) < (l0.length : Int)
     ·rw [if_pos c27] at H;have c27b0 : decide ((ji25) < (l0.length : Int)) = true:=decide_eq_true c27;clear c27;by_cases c28 : 0 ≤ a1
      ·rw [if_pos c28] at H;have c28b0 : decide (0 ≤ a1) = true:=decide_eq_true c28;clear c28;by_cases c29 : a1 < (t110.length : Int)
       ·rw [if_pos c29] at H;have c29b0 : decide (a1 < (t110.length : Int)) = true:=decide_eq_true c29;clear c29;obtain ⟨y114,hy114⟩ : ∃ y_ : List (S58),y_ = (t110.set (a1 : Int).toNat (⟨(rd_T58 t110 a1).f0,(rd_T58 l0 (ji25)).f1,(rd_T58 t110 a1).f2⟩ : S58)):=⟨_,rfl⟩;replace H : (some (y114,true)) = some (r1,r2):=by first | (rw [hy114];with_reducible exact H) | (have H2_:=(Option.bind_some _ _).symm.trans H;rw [hy114];with_reducible exact H2_) | (have H2_:=(Option.bind_some _ _).symm.trans H;with_reducible exact H2_) | with_reducible exact H | (rw [hy114];exact H) | exact H
        have Ny114:=Aside0.mk hy114;clear hy114;simp only [Option.some.injEq,Prod.mk.injEq] at H;obtain ⟨rfl,rfl⟩:=H;go_wp2_with (first | ((with_reducible refine gate_callee (f:=145) rfl ?_);refine goesL_ (some 47) rfl rfl Try.func145 (by kernel_rfl) rfl #[.slice A0 l0.length c0] rfl (q18_) ?_;(with_reducible refine (slices_Clone_Note.calls _ _ l0 t107 _ ?side1 ?side2 A23.out).mono ?_);(case side1=>exact cX_ (Kd.C_below HR0.out HB.out));(case side2=>exact HC0.out);rintro e w31 ⟨v108,rfl,ho0,hb⟩;refine ⟨_,rfl,?_⟩;have HO109:=Aside0.mk (Kd.R_lower ho0 (below_size (q17_)));replace HB:=bS_ HB hb;(try clear hb);(try clear ho0);obtain ⟨Ao32,co32,eo32⟩:=Kd.R_slice HO109.out;subst eo32) | ((with_reducible refine gate_callee (f:=148) rfl ?_);refine goesL_ (some 52) rfl rfl Try.func148 (by kernel_rfl) rfl #[.slice Ao32 t107.length co32,.int .i64 ji25,.int .i64 (wrap64 (a1 + 2))] rfl (by (try simp only [List.map_toArray,List.map_cons,List.map_nil]);first | done | (simp only [hji25];rfl) | rfl | (simp only [List.length_drop,List.length_take];rfl)) ?_;(with_reducible refine (slices_Delete_Note.own _ _ t107 ji25 (wrap64 (a1 + 2)) t110 w _ ?side1 ?side2 A24.out).mono ?_);(case side1=>repeat (first | (with_reducible first | exact HB.out | apply below_alloc | apply pw_below_drewN | apply below_drew1) | exact HB.out));(case side2=>(with_reducible repeat (first | apply Kd.R_alloc | apply Kd.R_drewN | apply Kd.R_drew));exact Kd.R_mono HO109.out (fun _ _=>trivial));rintro e w33 ⟨v111,rfl,ho0,hb⟩;refine ⟨_,rfl,?_⟩;clear HO109;clear HB;have HO112:=Aside0.mk ho0;have HB:=Aside0.mk hb;(try clear hb);(try clear hk);(try clear ho0);have p113 : 0 ≤ ((ji25) : Int):=of_decide_eq_true (q3_);have q113 : (ji25) < (l0.length : Int):=of_decide_eq_true (q3_);obtain ⟨ad113,e113,hx113_0,hx113_1,hx113_2⟩:=at_T58 HR0.out (ji25) p113 q113;cases e113;replace hx113_0:=hB_ HB.out hx113_0;replace hx113_1:=hB_ HB.out hx113_1;replace hx113_2:=hB_ HB.out hx113_2;replace p113:=eq_true p113;replace q113:=eq_true q113;have p30 : 0 ≤ (a1 : Int):=of_decide_eq_true (q3_);have q30 : (a1 : Int) < ((t110.length : Int) : Int):=of_decide_eq_true (q3_);obtain ⟨go30,co30,eo30,gb30,gl30,cl30,HG30⟩:=Kd.R_form HO112.out (by omega);(first | cases eo30 | (injection eo30 with ea_ en_ ec_;(first | subst ea_ | (injection ea_ with ea_;subst ea_));subst ec_;clear en_));have GB30:=Aside0.mk gb30;have GG30:=Aside0.mk HG30;clear gb30 gl30 HG30;obtain ⟨ce30,hcl30,hM30,hcc30,hfr30⟩:=Kd.R_elem HO112.out z58 (a1 : Int) p30 q30;obtain rfl:=k58_openM hM30;have hx30_0 : w33.cell? ⟨go30,(a1 : Int).toNat * 3,none⟩ = some (.int .i64 ((rd_T58 t110 a1).f0)):=hcc30 0 _ rfl;have hx30_1 : w33.cell? ⟨go30,(a1 : Int).toNat * 3 + 1,none⟩ = some (.int .i64 ((rd_T58 t110 a1).f1)):=hcc30 1 _ rfl;have hx30_2 : w33.cell? ⟨go30,(a1 : Int).toNat * 3 + 2,none⟩ = some (.string ((rd_T58 t110 a1).f2)):=hcc30 2 _ rfl;have hf30_0 : w33.frozen? ⟨go30,(a1 : Int).toNat * 3,none⟩ = false:=hfr30 0;have hf30_1 : w33.frozen? ⟨go30,(a1 : Int).toNat * 3 + 1,none⟩ = false:=hfr30 1;have hf30_2 : w33.frozen? ⟨go30,(a1 : Int).toNat * 3 + 2,none⟩ = false:=hfr30 2;clear hcl30 hcc30 hfr30 hM30;replace p30:=eq_true p30;replace q30:=eq_true q30;have HX34:=Aside0.mk (show Kd.R k58 58 w33 w.heap.size (fun _=>True) (.slice (some ⟨go30,0,none⟩) t110.length co30) t110 from (by (with_reducible repeat (first | apply Kd.R_alloc | apply Kd.R_drewN | apply Kd.R_drew));exact HO112.out));obtain ⟨ce34,hcl34,hM34,hcc34,hfr34⟩:=Kd.R_elem HX34.out z58 (a1 : Int) (of_decide_eq_true (q3_)) (by have h_ : (a1 : Int) < ((t110.length : Int) : Int):=of_decide_eq_true (q3_);first | exact h_ | (have e_:=(Kd.R_reads' HO112.out).1;omega) | simpa using h_);obtain rfl:=k58_openM hM34;have HP34:=Kd.R_seg HX34.out (a1 : Int) (of_decide_eq_true (q3_)) (by have h_ : (a1 : Int) < ((t110.length : Int) : Int):=of_decide_eq_true (q3_);first | exact h_ | (have e_:=(Kd.R_reads' HO112.out).1;omega) | simpa using h_) (seg:=[.int .i64 ((rd_T58 l0 (ji25)).f1)]) (j:=1) hcl34 hcc34 (show 2 ≤ 3 from by decide) (x' := (⟨(rd_T58 t110 a1).f0,(rd_T58 l0 (ji25)).f1,(rd_T58 t110 a1).f2⟩ : S58)) (k58_mkM _ _ _ (⟨(rd_T58 t110 a1).f0,(rd_T58 l0 (ji25)).f1,(rd_T58 t110 a1).f2⟩ : S58) ) (fun _ hk=>hk);have hx34_1:=hcc34 1 _ rfl;(try simp only [show (k58).sz = 3 from rfl,Nat.mul_one,Nat.add_zero] at hx34_1);have hf34_1:=hfr34 1;(try simp only [show (k58).sz = 3 from rfl,Nat.mul_one,Nat.add_zero] at hf34_1);clear hcl34 hcc34 hfr34 hM34) | ((with_reducible refine gate_store (t:=3) (p:=62) rfl ?_);refine store_event (t:=3) (p:=62) (v:=?vo_w35) (w1:=(w33.setCell ⟨go30,(a1 : Int).toNat * 3 + 1,none⟩ (.int .i64 ((rd_T58 l0 (ji25)).f1)))) ?hg ?ho ?hn ?hr ?_;(case ho=>rfl);(case hg=>rfl);(case hn=>rfl);(case hr=>first | (go_simp;done) | (go_simp;rfl));intro w35 hw;have hg : w33.grownBy w35 (some go30):=(by rw [hw];exact HP34.2);have hp_ : Kd.R k58 58 w35 w.heap.size (fun _=>True) (.slice (some ⟨go30,0,none⟩) t110.length co30) y114:=(by rw [hw,Ny114.out];exact HP34.1);clear HP34;have n1_:=Aside0.mk (hp_);have n2_:=Aside0.mk ((by rw [hw];exact below_set (HB.out) GB30.out : Below w.heap.size w w35));clear HO112;clear HB;have HO112:=n1_;have HB:=n2_;clear n1_ n2_;clear hg hw hp_))
        go_ret2
        exact ⟨_,by first | rfl | (simp [errW_none,errW_some] <;> rfl) | (simp only [← hji25];first | rfl | (simp [errW_none,errW_some] <;> rfl)) | (simp [*,errW_none,errW_some] <;> rfl),by (with_reducible repeat (first | apply Kd.R_alloc | apply Kd.R_drewN | apply Kd.R_drew));exact Kd.R_mono HO112.out (fun _ hk=>trivial),q17_⟩
       ·rw [if_neg c29] at H;exact absurd H (by simp)
      ·rw [if_neg c28] at H;exact absurd H (by simp)
     ·rw [if_neg c27] at H;exact absurd H (by simp)
    ·rw [if_neg c26] at H;exact absurd H (by simp)
end Go.Proofs.Ytgapcmmhbegdeaa.G
