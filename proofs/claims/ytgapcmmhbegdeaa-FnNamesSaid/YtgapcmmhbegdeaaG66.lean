-- Written by this session's own program over the kit's print (wip/tools/myprint.py); Lean checks it.
import Derived.Test.YtgapcmmhbegdeaaMBase
import Derived.Test.YtgapcmmhbegdeaaG0
import Derived.Test.YtgapcmmhbegdeaaG61
import Derived.Test.YtgapcmmhbegdeaaG62
import Derived.Test.YtgapcmmhbegdeaaG63
import Derived.Test.YtgapcmmhbegdeaaG64
import Derived.Test.YtgapcmmhbegdeaaG65
namespace Go.Proofs.Ytgapcmmhbegdeaa.G
open Go.RowKit Go.Proofs.YtgapcmmhbegdeaaW.PrintWords Go.Proofs.YtgapcmmhbegdeaaW.PrintLast Go.Proofs.YtgapcmmhbegdeaaW.PrintMore
attribute [local go_sem] max2_int min2_int max_two min_two max_three min_three max_four min_four str_geq str_gtr str_leq   -- for this text's walks alone
set_option linter.unusedVariables false
set_option linter.unusedSimpArgs false
/-! ### spec_SolveClashes: function 50 -/
mutual
def spec_SolveClashes.j0 : Nat → List (S77) → Int → Bool → Option ((List (S77)) × Int × Bool)
 | 0,_,_,_=>none
 | k + 1,x0,x1,x21=>if x21 = true then (some (([] : List (S77)),0,false)) else (spec_SolveClashes.l0 k x0 x1 x0 (x0.length : Int) 0)
def spec_SolveClashes.l0 : Nat → List (S77) → Int → List (S77) → Int → Int → Option ((List (S77)) × Int × Bool)
 | 0,_,_,_,_,_=>none
 | k + 1,x0,x1,x22,x23,x24=>if x24 < x23 then (if 0 ≤ x24 then (if x24 < (x22.length : Int) then (if ((rd_T77 x22 x24).f3) > x1 then (some (([] : List (S77)),0,false)) else (spec_SolveClashes.l0 k x0 x1 x22 x23 (wrap64 (x24 + 1)))) else (none)) else (none)) else ((some (([] : List (S77)) : List (S77))).bind fun y105=>(if y105.length + x0.length < 3518437208883 then ((spec_naChanges.f k x0).bind fun t111=>(spec_SolveClashes.l1 k x0 x1 (y105 ++ x0) t111 t111 (t111.length : Int) 0)) else (none)))
def spec_SolveClashes.l1 : Nat → List (S77) → Int → List (S77) → List Int → List Int → Int → Int → Option ((List (S77)) × Int × Bool)
 | 0,_,_,_,_,_,_,_=>none
 | k + 1,x0,x1,x9,x10,x38,x39,x40=>if x40 < x39 then (if 0 ≤ x40 then (if x40 < (x38.length : Int) then (if 0 ≤ (rd x38 x40) then (if (rd x38 x40) < (x0.length : Int) then ((spec_naFree.f k x9 ((rd_T77 x0 (rd x38 x40)).f1)).bind fun t116=>(if t116 < 0 then (some (([] : List (S77)),0,false)) else ((spec_naWith.f x9 (rd x38 x40) ((rd_T77 x0 (rd x38 x40)).f1) t116 x1).bind fun t118=>(spec_SolveClashes.l1 k x0 x1 t118 x10 x38 x39 (wrap64 (x40 + 1)))))) else (none)) else (none)) else (none)) else (none)) else (some (x9,(x10.length : Int),true))
end
def spec_SolveClashes.f (k : Nat) (l0 : List (S77)) (a1 : Int) : Option ((List (S77)) × Int × Bool):=(spec_naGood.f k l0).bind fun t101=>(if t101 = true then ((spec_naYear.f a1).bind fun t102=>(spec_SolveClashes.j0 k l0 a1 (!t102))) else (spec_SolveClashes.j0 k l0 a1 true))
set_option maxHeartbeats 8000000 in
set_option maxRecDepth 100000 in
theorem spec_SolveClashes.calls (k : Nat) (A0 : Option Addr) (c0 : Nat) (l0 : List (S77)) (a1 : Int) (r1 : List (S77)) (r2 : Int) (r3 : Bool) (w : World) (hr0 : Kd.C k77 w A0 l0.length l0) (hc0 : l0.length ≤ c0) (h : spec_SolveClashes.f k l0 a1 = some (r1,r2,r3)) :
  Calls Try.prog 50 #[.slice A0 l0.length c0,.int .i64 a1] w fun e w' => ∃ v0_ : Value,e = .returned (.tuple #[v0_,.int .i64 r2,.bool r3]) ∧ Kd.R k77 77 w' w.heap.size (fun _=>True) v0_ r1 ∧ Below w.heap.size w w' := by
 have hu77:=Try.underlying77;have HR0:=Aside0.mk hr0;have HC0:=Aside0.mk hc0;clear hr0 hc0;have HB:=Aside0.mk (Below.refl w.heap.size w);have H : ((spec_naGood.f k l0).bind fun t101=>(if t101 = true then ((spec_naYear.f a1).bind fun t102=>(spec_SolveClashes.j0 k l0 a1 (!t102))) else (spec_SolveClashes.j0 k l0 a1 true))) = some (r1,r2,r3):=h;clear h;have HC3:=Aside0.mk H;clear H;go_enter Try.func50,Try.ntmps50
 go_upto_region 1 with (fail)
 go_cut [21] (fun v21 wc=>∃ (kq : Nat) (x21_2 : Bool),v21 = .bool x21_2 ∧ Aside0 (spec_SolveClashes.j0 kq l0 a1 x21_2 = some (r1,r2,r3)) ∧ Aside0 (kq ≤ k) ∧ Aside0 (Below w.heap.size w wc))
 case first =>
  have H:=HC3.out;clear HC3;replace H:=Option.bind_eq_some_iff.mp H;obtain ⟨t101,A40,H⟩:=H;(try dsimp only at H);have A4:=Aside0.mk A40;clear A40;by_cases c5 : t101 = true
  ·subst c5;have H1 : ((spec_naYear.f a1).bind fun t102=>(spec_SolveClashes.j0 k l0 a1 (!t102))) = some (r1,r2,r3):=by rw [if_pos rfl] at H;exact H
   clear H;have H:=H1;clear H1;replace H:=Option.bind_eq_some_iff.mp H;obtain ⟨t102,A60,H⟩:=H;(try dsimp only at H);have A6:=Aside0.mk A60;clear A60;have H' := Aside0.mk H;clear H;go_wp2_with (first | ((with_reducible refine gate_callee (f:=162) rfl ?_);refine goesL_ (some 15) rfl rfl Try.func162 (by kernel_rfl) rfl #[.slice A0 l0.length c0] rfl (q22_) ?_;(with_reducible refine (spec_naGood.calls k _ _ l0 true _ ?side1 ?side2 A4.out).mono ?_);(case side1=>exact cX_ (Kd.C_below HR0.out HB.out));(case side2=>exact HC0.out);rintro e w7 ⟨rfl,hb⟩;refine ⟨_,rfl,?_⟩;replace HB:=bS_ HB hb;(try clear hb)) | (go_at_call 163;(with_reducible refine (spec_naYear.calls a1 t102 _ A6.out).mono ?_);rintro e w' ⟨rfl,⟨nd,rfl⟩⟩))
   go_meet
   case rel=>exact ⟨_,(!t102),(q1_),H', ⟨by first | omega | exact Nat.le_refl _⟩,⟨q21_⟩⟩
  ·replace c5:=Bool.eq_false_iff.mpr c5;subst c5;have H1 : (spec_SolveClashes.j0 k l0 a1 true) = some (r1,r2,r3):=by rw [if_neg (show ¬ (false = true) by decide)] at H;exact H
   clear H;have H:=H1;clear H1;have H' := Aside0.mk H;clear H;go_wp2_with (first | ((with_reducible refine gate_callee (f:=162) rfl ?_);refine goesL_ (some 15) rfl rfl Try.func162 (by kernel_rfl) rfl #[.slice A0 l0.length c0] rfl (q22_) ?_;(with_reducible refine (spec_naGood.calls k _ _ l0 false _ ?side1 ?side2 A4.out).mono ?_);(case side1=>exact cX_ (Kd.C_below HR0.out HB.out));(case side2=>exact HC0.out);rintro e w8 ⟨rfl,hb⟩;refine ⟨_,rfl,?_⟩;replace HB:=bS_ HB hb;(try clear hb)))
   go_meet
   case rel=>exact ⟨_,(true),(q1_),H', ⟨by first | omega | exact Nat.le_refl _⟩,⟨q21_⟩⟩
 case rest =>
  clear HC3;try clear c5
  obtain ⟨kq,x21_2,rfl,HA,HJ2,HB⟩:=hcut;cases kq with
  | zero=>exact absurd HA.out (by simp [spec_SolveClashes.j0])
  | succ kj2 =>
   have H:=HA.out;clear HA;simp only [spec_SolveClashes.j0] at H;by_cases c9 : x21_2 = true
   ·subst c9;have H1 : (some (([] : List (S77)),0,false)) = some (r1,r2,r3):=by rw [if_pos rfl] at H;exact H
    clear H;have H:=H1;clear H1;simp only [Option.some.injEq,Prod.mk.injEq] at H;obtain ⟨rfl,rfl,rfl⟩:=H;go_wp2;go_ret3
    exact ⟨_,q4_,q23_,q21_⟩
   ·replace c9:=Bool.eq_false_iff.mpr c9;subst c9;have H1 : (spec_SolveClashes.l0 kj2 l0 a1 l0 (l0.length : Int) 0) = some (r1,r2,r3):=by rw [if_neg (show ¬ (false = true) by decide)] at H;exact H
    clear H;have H:=H1;clear H1;have H' := Aside0.mk H;clear H;go_wp2;go_loopg [24] kj2 (fun kq v24 w' => ∃ (x24_2 : Int),v24 = .int .i64 x24_2 ∧ Aside0 (spec_SolveClashes.l0 kq l0 a1 l0 (l0.length : Int) x24_2 = some (r1,r2,r3)) ∧ Aside0 (kq ≤ kj2) ∧ Aside0 (Below w.heap.size w w'))
    case atStart=>exact ⟨(0),(q1_),H', ⟨Nat.le_refl _⟩,⟨q21_⟩⟩
    case round =>
     clear H';try clear c5
     try clear c9
     obtain ⟨x24_2,rfl,HA,HK2,HB⟩:=hrel;cases gk with
     | zero=>exact absurd HA.out (by simp [spec_SolveClashes.l0])
     | succ k2 =>
      have H:=HA.out;clear HA;simp only [spec_SolveClashes.l0] at H;by_cases c10 : x24_2 < (l0.length : Int)
      ·rw [if_pos c10] at H;have c10b0 : decide (x24_2 < (l0.length : Int)) = true:=decide_eq_true c10;clear c10;by_cases c11 : 0 ≤ x24_2
       ·rw [if_pos c11] at H;have c11b0 : decide (0 ≤ x24_2) = true:=decide_eq_true c11;clear c11;by_cases c12 : x24_2 < (l0.length : Int)
        ·rw [if_pos c12] at H;have c12b0 : decide (x24_2 < (l0.length : Int)) = true:=decide_eq_true c12;clear c12;by_cases c13 : ((rd_T77 l0 x24_2).f3) > a1
         ·rw [if_pos c13] at H;have c13b0 : decide (a1 < ((rd_T77 l0 x24_2).f3)) = true:=decide_eq_true c13;clear c13;simp only [Option.some.injEq,Prod.mk.injEq] at H;obtain ⟨rfl,rfl,rfl⟩:=H;have p103 : 0 ≤ (x24_2 : Int):=of_decide_eq_true (q2_);have q103 : x24_2 < (l0.length : Int):=of_decide_eq_true (q2_);obtain ⟨ad103,e103,hx103_0,hx103_1,hx103_2,hx103_3⟩:=at_T77 HR0.out x24_2 p103 q103;cases e103;replace hx103_0:=hB_ HB.out hx103_0;replace hx103_1:=hB_ HB.out hx103_1;replace hx103_2:=hB_ HB.out hx103_2;replace hx103_3:=hB_ HB.out hx103_3;replace p103:=eq_true p103;replace q103:=eq_true q103;go_wp2_with (first | ((with_reducible refine gate_dst (N:=8) rfl ?_);refine box_event ?hg (N:=8) ?hd (cs:=#[.string (⟨#[]⟩ : ByteArray),.int .i64 0,.int .i64 0,.int .i64 0]) (t:=77) ?hr ?_;(case hd=>rfl);(case hg=>rfl);(case hr=>first | (go_simp;done) | (go_simp;rfl));intro gb104 hg w14 hbox hb;have BK104:=Aside0.mk (hbox);have GW104:=Aside0.mk ((q49_ : w.heap.size ≤ gb104));have GE104:=Aside0.mk ((q49_ : w.heap.size ≤ gb104));replace HB:=bS_ HB hb;clear hb hbox hg;have hcz15_0 : w14.cell? ⟨gb104,0,none⟩ = some (.string (⟨#[]⟩ : ByteArray)):=(blk_cell BK104.out 0).trans rfl;have hcz15_1 : w14.cell? ⟨gb104,1,none⟩ = some (.int .i64 0):=(blk_cell BK104.out 1).trans rfl;have hcz15_2 : w14.cell? ⟨gb104,2,none⟩ = some (.int .i64 0):=(blk_cell BK104.out 2).trans rfl;have hcz15_3 : w14.cell? ⟨gb104,3,none⟩ = some (.int .i64 0):=(blk_cell BK104.out 3).trans rfl;have hfz15_0:=blk_frozen BK104.out 0;have hfz15_1:=blk_frozen BK104.out 1;have hfz15_2:=blk_frozen BK104.out 2;have hfz15_3:=blk_frozen BK104.out 3))
          go_ret3
          exact ⟨_,q4_,q23_,by repeat (first | (with_reducible first | exact HB.out | apply below_alloc | apply pw_below_drewN | apply below_drew1 | refine below_set ?_ GE104.out) | exact HB.out)⟩
         ·rw [if_neg c13] at H;have c13b0 : decide (a1 < ((rd_T77 l0 x24_2).f3)) = false:=decide_eq_false c13;clear c13;have H' := Aside0.mk H;clear H;have p103 : 0 ≤ (x24_2 : Int):=of_decide_eq_true (q2_);have q103 : x24_2 < (l0.length : Int):=of_decide_eq_true (q2_);obtain ⟨ad103,e103,hx103_0,hx103_1,hx103_2,hx103_3⟩:=at_T77 HR0.out x24_2 p103 q103;cases e103;replace hx103_0:=hB_ HB.out hx103_0;replace hx103_1:=hB_ HB.out hx103_1;replace hx103_2:=hB_ HB.out hx103_2;replace hx103_3:=hB_ HB.out hx103_3;replace p103:=eq_true p103;replace q103:=eq_true q103;go_wp2_with (first | ((with_reducible refine gate_dst (N:=8) rfl ?_);refine box_event ?hg (N:=8) ?hd (cs:=#[.string (⟨#[]⟩ : ByteArray),.int .i64 0,.int .i64 0,.int .i64 0]) (t:=77) ?hr ?_;(case hd=>rfl);(case hg=>rfl);(case hr=>first | (go_simp;done) | (go_simp;rfl));intro gb104 hg w16 hbox hb;have BK104:=Aside0.mk (hbox);have GW104:=Aside0.mk ((q49_ : w.heap.size ≤ gb104));have GE104:=Aside0.mk ((q49_ : w.heap.size ≤ gb104));replace HB:=bS_ HB hb;clear hb hbox hg;have hcz17_0 : w16.cell? ⟨gb104,0,none⟩ = some (.string (⟨#[]⟩ : ByteArray)):=(blk_cell BK104.out 0).trans rfl;have hcz17_1 : w16.cell? ⟨gb104,1,none⟩ = some (.int .i64 0):=(blk_cell BK104.out 1).trans rfl;have hcz17_2 : w16.cell? ⟨gb104,2,none⟩ = some (.int .i64 0):=(blk_cell BK104.out 2).trans rfl;have hcz17_3 : w16.cell? ⟨gb104,3,none⟩ = some (.int .i64 0):=(blk_cell BK104.out 3).trans rfl;have hfz17_0:=blk_frozen BK104.out 0;have hfz17_1:=blk_frozen BK104.out 1;have hfz17_2:=blk_frozen BK104.out 2;have hfz17_3:=blk_frozen BK104.out 3))
          go_roundg k2
          case measure=>have:=HJ2.out;have:=HK2.out;omega
          case rel=>exact ⟨(wrap64 (x24_2 + 1)),(q1_),H', ⟨by have:=HJ2.out;have:=HK2.out;omega⟩,⟨by repeat (first | (with_reducible first | exact HB.out | apply below_alloc | apply pw_below_drewN | apply below_drew1 | refine below_set ?_ GE104.out) | exact HB.out)⟩⟩
        ·rw [if_neg c12] at H;exact absurd H (by simp)
       ·rw [if_neg c11] at H;exact absurd H (by simp)
      ·rw [if_neg c10] at H;have c10b0 : decide (x24_2 < (l0.length : Int)) = false:=decide_eq_false c10;clear c10;obtain ⟨y105,hy105⟩ : ∃ y_ : List (S77),y_ = (([] : List (S77))):=⟨_,rfl⟩;replace H : (if y105.length + l0.length < 3518437208883 then ((spec_naChanges.f k2 l0).bind fun t111=>(spec_SolveClashes.l1 k2 l0 a1 (y105 ++ l0) t111 t111 (t111.length : Int) 0)) else (none)) = some (r1,r2,r3):=by first | (rw [hy105];with_reducible exact H) | (have H2_:=(Option.bind_some _ _).symm.trans H;rw [hy105];with_reducible exact H2_) | (have H2_:=(Option.bind_some _ _).symm.trans H;with_reducible exact H2_) | with_reducible exact H | (rw [hy105];exact H) | exact H
       have Ny105:=Aside0.mk hy105;clear hy105;by_cases c18 : y105.length + l0.length < 3518437208883
       ·rw [if_pos c18] at H;have LMc18:=Aside0.mk c18;clear c18;obtain ⟨y108,hy108⟩ : ∃ y_ : List (S77),y_ = (y105 ++ l0):=⟨_,rfl⟩;replace H : ((spec_naChanges.f k2 l0).bind fun t111=>(spec_SolveClashes.l1 k2 l0 a1 y108 t111 t111 (t111.length : Int) 0)) = some (r1,r2,r3):=by first | (rw [hy108];with_reducible exact H) | (have H2_:=(Option.bind_some _ _).symm.trans H;rw [hy108];with_reducible exact H2_) | (have H2_:=(Option.bind_some _ _).symm.trans H;with_reducible exact H2_) | with_reducible exact H | (rw [hy108];exact H) | exact H
        have Ny108:=Aside0.mk hy108;clear hy108;replace H:=Option.bind_eq_some_iff.mp H;obtain ⟨t111,A190,H⟩:=H;(try dsimp only at H);have A19:=Aside0.mk A190;clear A190;have H' := Aside0.mk H;clear H;go_wp2_with (first | ((with_reducible refine gate_dst (N:=33) rfl ?_);refine Kd.R_lit k77 _ 77 ?hg (N:=33) ?hd (xs:=([] : List (S77))) (inner:=[]) (ok:=fun _=>True) (okp:=fun _=>True) ?hr ?hp (fun _ hk=>hk) trivial (Below.refl _ _) (Nat.le_refl _) (by simp) ?_;(case hd=>rfl);(case hg=>rfl);(case hr=>first | (go_simp;done) | (go_simp;rfl));(case hp=>exact (Reps.none _ _));intro v106 w20 ho21 hb hg_ hnew_;clear hg_ hnew_;(first | rw [← Ny105.out] at ho21 | (simp only [Int.reduceToNat] at ho21;rw [← Ny105.out] at ho21));have HO107:=Aside0.mk (Kd.R_lower ho21 (below_size (q21_)));replace HB:=bS_ HB hb;clear hb ho21) | ((with_reducible refine gate_builtin (b:=.append) (xs:=#[.tmp 33,.tmp 34]) rfl ?_);at_builtin;refine Kd.R_append_rows k77 (w0:=w) w.heap.size rfl (.tmp 33) (.tmp 34) 60 77 (.agg #[(.string ⟨#[]⟩),(.int .i64 0),(.int .i64 0),(.int .i64 0)]) 40 rfl Try.underlying60 info77 rfl (by decide) (by omega) v106 y105 l0 _ _ _ (fun _=>True) (fun _=>False) rfl rfl ?aO ?aR (fun _ _ h=>h) (fun _ h=>h.elim) ?aF ?aB ?aS ?aL ?_;(case aR=>exact cX_ (Kd.C_below HR0.out HB.out));(case aB=>exact (q21_));(case aF=>exact (fun _ _=>trivial));(case aO=>exact (q12_));(case aS=>exact (below_size (q21_)));(case aL=>have:=LMc18.out;omega);intro v109 w22 ho hb hg hat;rw [← Ny108.out] at ho;replace HB:=Aside0.mk (hb);have HO110:=Aside0.mk (ho);clear HO107;clear ho hb hg hat) | ((with_reducible refine gate_callee (f:=164) rfl ?_);refine goesL_ (some 37) rfl rfl Try.func164 (by kernel_rfl) rfl #[.slice A0 l0.length c0] rfl (q22_) ?_;(with_reducible refine (spec_naChanges.calls k2 _ _ l0 t111 _ ?side1 ?side2 A19.out).mono ?_);(case side1=>exact cX_ (Kd.C_below HR0.out HB.out));(case side2=>exact HC0.out);rintro e w23 ⟨v112,rfl,ho0,hb⟩;refine ⟨_,rfl,?_⟩;replace HO110:=rB_ HO110 hb;have HO113:=Aside0.mk (Kd.R_lower ho0 (below_size (q21_)));replace HB:=bS_ HB hb;(try clear hb);(try clear ho0);obtain ⟨Ao24,co24,eo24⟩:=Kd.R_slice HO113.out;subst eo24))
        go_loopg [9,40] k2 (fun kq v9 v40 w' => ∃ (x9_3 : List (S77)) (x40_3 : Int),v40 = .int .i64 x40_3 ∧ Aside0 (spec_SolveClashes.l1 kq l0 a1 x9_3 t111 t111 (t111.length : Int) x40_3 = some (r1,r2,r3)) ∧ Aside0 (kq ≤ k2) ∧ Aside0 (Kd.R k77 77 w' w.heap.size (fun _=>True) v9 x9_3) ∧ Aside0 (Kd.R (Kd.int .i64) 3 w' w.heap.size (fun _=>True) (.slice Ao24 t111.length co24) t111) ∧ Aside0 (Kd.R (Kd.int .i64) 3 w' w.heap.size (fun _=>True) (.slice Ao24 t111.length co24) t111) ∧ Aside0 (Below w.heap.size w w'))
        case atStart=>exact ⟨(y108),(0),(q1_),H', ⟨Nat.le_refl _⟩,⟨by (with_reducible repeat (first | apply Kd.R_alloc | apply Kd.R_drewN | apply Kd.R_drew));exact HO110.out⟩,⟨q13_⟩,⟨q13_⟩,⟨q21_⟩⟩
        case round =>
         clear H';try clear c5
         try clear c9
         try clear c10
         try clear c10b0
         try clear c11
         try clear c11b0
         try clear c12
         try clear c12b0
         try clear c13
         try clear c13b0
         try clear c18
         try clear hcz15_0
         try clear hcz15_1
         try clear hcz15_2
         try clear hcz15_3
         try clear hcz17_0
         try clear hcz17_1
         try clear hcz17_2
         try clear hcz17_3
         try clear hfz15_0
         try clear hfz15_1
         try clear hfz15_2
         try clear hfz15_3
         try clear hfz17_0
         try clear hfz17_1
         try clear hfz17_2
         try clear hfz17_3
         try clear hx103_0
         try clear hx103_1
         try clear hx103_2
         try clear hx103_3
         try clear p103
         try clear q103
         obtain ⟨x9_3,x40_3,rfl,HA,HK3,HO_9,HO_10,HO_38,HB⟩:=hrel;cases gk with
         | zero=>exact absurd HA.out (by simp [spec_SolveClashes.l1])
         | succ k3 =>
          have H:=HA.out;clear HA;simp only [spec_SolveClashes.l1] at H;by_cases c25 : x40_3 < (t111.length : Int)
          ·rw [if_pos c25] at H;have c25b0 : decide (x40_3 < (t111.length : Int)) = true:=decide_eq_true c25;clear c25;by_cases c26 : 0 ≤ x40_3
           ·rw [if_pos c26] at H;have c26b0 : decide (0 ≤ x40_3) = true:=decide_eq_true c26;clear c26;by_cases c27 : x40_3 < (t111.length : Int)
            ·rw [if_pos c27] at H;have c27b0 : decide (x40_3 < (t111.length : Int)) = true:=decide_eq_true c27;clear c27;by_cases c28 : 0 ≤ (rd t111 x40_3)
             ·rw [if_pos c28] at H;have c28b0 : decide (0 ≤ (rd t111 x40_3)) = true:=decide_eq_true c28;clear c28;by_cases c29 : (rd t111 x40_3) < (l0.length : Int)
              ·rw [if_pos c29] at H;have c29b0 : decide ((rd t111 x40_3) < (l0.length : Int)) = true:=decide_eq_true c29;clear c29;replace H:=Option.bind_eq_some_iff.mp H;obtain ⟨t116,A300,H⟩:=H;(try dsimp only at H);have A30:=Aside0.mk A300;clear A300;by_cases c31 : t116 < 0
               ·rw [if_pos c31] at H;have c31b0 : decide (t116 < 0) = true:=decide_eq_true c31;clear c31;simp only [Option.some.injEq,Prod.mk.injEq] at H;obtain ⟨rfl,rfl,rfl⟩:=H;have p114 : 0 ≤ (x40_3 : Int):=of_decide_eq_true (q2_);have q114 : x40_3 < (t111.length : Int):=of_decide_eq_true (q2_);obtain ⟨ad114,e114,hx114_0⟩:=Kd.at_int (Kd.R_reads' HO_38.out).2.2 x40_3 p114 q114;cases e114;replace p114:=eq_true p114;replace q114:=eq_true q114;have p115 : 0 ≤ ((rd t111 x40_3) : Int):=of_decide_eq_true (q2_);have q115 : (rd t111 x40_3) < (l0.length : Int):=of_decide_eq_true (q2_);obtain ⟨ad115,e115,hx115_0,hx115_1,hx115_2,hx115_3⟩:=at_T77 HR0.out (rd t111 x40_3) p115 q115;cases e115;replace hx115_0:=hB_ HB.out hx115_0;replace hx115_1:=hB_ HB.out hx115_1;replace hx115_2:=hB_ HB.out hx115_2;replace hx115_3:=hB_ HB.out hx115_3;replace p115:=eq_true p115;replace q115:=eq_true q115;obtain ⟨Ao32,co32,eo32⟩:=Kd.R_slice HO_9.out;subst eo32;go_wp2_with (first | ((with_reducible refine gate_callee (f:=165) rfl ?_);refine goesL_ (some 50) rfl rfl Try.func165 (by kernel_rfl) rfl #[.slice Ao32 x9_3.length co32,.int .i64 ((rd_T77 l0 (rd t111 x40_3)).f1)] rfl (q22_) ?_;(with_reducible refine (spec_naFree.calls k3 _ _ x9_3 ((rd_T77 l0 (rd t111 x40_3)).f1) t116 _ ?side1 ?side2 A30.out).mono ?_);(case side1=>exact cX_ (Kd.R_reads' HO_9.out).2.2);(case side2=>exact (Kd.R_reads' HO_9.out).2.1);rintro e w33 ⟨rfl,hb⟩;refine ⟨_,rfl,?_⟩;replace HO_9:=rB_ HO_9 hb;replace HO_10:=rB_ HO_10 hb;replace HO_38:=rB_ HO_38 hb;replace HB:=bS_ HB hb;(try clear hb)))
                go_ret3
                exact ⟨_,q4_,q23_,q21_⟩
               ·rw [if_neg c31] at H;have c31b0 : decide (t116 < 0) = false:=decide_eq_false c31;clear c31;replace H:=Option.bind_eq_some_iff.mp H;obtain ⟨t118,A340,H⟩:=H;(try dsimp only at H);have A34:=Aside0.mk A340;clear A340;have H' := Aside0.mk H;clear H;have p114 : 0 ≤ (x40_3 : Int):=of_decide_eq_true (q2_);have q114 : x40_3 < (t111.length : Int):=of_decide_eq_true (q2_);obtain ⟨ad114,e114,hx114_0⟩:=Kd.at_int (Kd.R_reads' HO_38.out).2.2 x40_3 p114 q114;cases e114;replace p114:=eq_true p114;replace q114:=eq_true q114;have p115 : 0 ≤ ((rd t111 x40_3) : Int):=of_decide_eq_true (q2_);have q115 : (rd t111 x40_3) < (l0.length : Int):=of_decide_eq_true (q2_);obtain ⟨ad115,e115,hx115_0,hx115_1,hx115_2,hx115_3⟩:=at_T77 HR0.out (rd t111 x40_3) p115 q115;cases e115;replace hx115_0:=hB_ HB.out hx115_0;replace hx115_1:=hB_ HB.out hx115_1;replace hx115_2:=hB_ HB.out hx115_2;replace hx115_3:=hB_ HB.out hx115_3;replace p115:=eq_true p115;replace q115:=eq_true q115;obtain ⟨Ao35,co35,eo35⟩:=Kd.R_slice HO_9.out;subst eo35;go_wp2_with (first | ((with_reducible refine gate_callee (f:=165) rfl ?_);refine goesL_ (some 50) rfl rfl Try.func165 (by kernel_rfl) rfl #[.slice Ao35 x9_3.length co35,.int .i64 ((rd_T77 l0 (rd t111 x40_3)).f1)] rfl (q22_) ?_;(with_reducible refine (spec_naFree.calls k3 _ _ x9_3 ((rd_T77 l0 (rd t111 x40_3)).f1) t116 _ ?side1 ?side2 A30.out).mono ?_);(case side1=>exact cX_ (Kd.R_reads' HO_9.out).2.2);(case side2=>exact (Kd.R_reads' HO_9.out).2.1);rintro e w36 ⟨rfl,hb⟩;refine ⟨_,rfl,?_⟩;replace HO_9:=rB_ HO_9 hb;replace HO_10:=rB_ HO_10 hb;replace HO_38:=rB_ HO_38 hb;replace HB:=bS_ HB hb;(try clear hb);have p117 : 0 ≤ ((rd t111 x40_3) : Int):=of_decide_eq_true (q2_);have q117 : (rd t111 x40_3) < (l0.length : Int):=of_decide_eq_true (q2_);obtain ⟨ad117,e117,hx117_0,hx117_1,hx117_2,hx117_3⟩:=at_T77 HR0.out (rd t111 x40_3) p117 q117;obtain rfl : ad115 = ad117:=(by injection e117);replace hx117_0:=hB_ HB.out hx117_0;replace hx117_1:=hB_ HB.out hx117_1;replace hx117_2:=hB_ HB.out hx117_2;replace hx117_3:=hB_ HB.out hx117_3;replace p117:=eq_true p117;replace q117:=eq_true q117) | ((with_reducible refine gate_callee (f:=166) rfl ?_);refine goesL_ (some 62) rfl rfl Try.func166 (by kernel_rfl) rfl #[.slice Ao35 x9_3.length co35,.int .i64 (rd t111 x40_3),.int .i64 ((rd_T77 l0 (rd t111 x40_3)).f1),.int .i64 t116,.int .i64 a1] rfl (q22_) ?_;(with_reducible refine (spec_naWith.calls _ _ x9_3 (rd t111 x40_3) ((rd_T77 l0 (rd t111 x40_3)).f1) t116 a1 t118 _ ?side1 ?side2 A34.out).mono ?_);(case side1=>exact cX_ (Kd.R_reads' HO_9.out).2.2);(case side2=>exact (Kd.R_reads' HO_9.out).2.1);rintro e w37 ⟨v119,rfl,ho0,hb⟩;refine ⟨_,rfl,?_⟩;replace HO_10:=rB_ HO_10 hb;replace HO_38:=rB_ HO_38 hb;have HO120:=Aside0.mk (Kd.R_lower (Kd.R_new' ho0 (Kd.R_lt (by (with_reducible repeat (first | apply Kd.R_alloc | apply Kd.R_drewN | apply Kd.R_drew));exact HO_9.out))) (below_size (q21_)));replace HO_9:=rE_ HO_9 ho0 hb;replace HB:=bS_ HB hb;(try clear hb);(try clear ho0)))
                go_roundg k3
                case measure=>have:=HJ2.out;have:=HK2.out;have:=HK3.out;omega
                case rel=>exact ⟨(t118),(wrap64 (x40_3 + 1)),(q1_),H', ⟨by have:=HJ2.out;have:=HK2.out;have:=HK3.out;omega⟩,⟨by (with_reducible repeat (first | apply Kd.R_alloc | apply Kd.R_drewN | apply Kd.R_drew));exact Kd.R_mono HO120.out (fun _ hk=>trivial)⟩,⟨by (with_reducible repeat (first | apply Kd.R_alloc | apply Kd.R_drewN | apply Kd.R_drew));exact HO_10.out⟩,⟨by (with_reducible repeat (first | apply Kd.R_alloc | apply Kd.R_drewN | apply Kd.R_drew));exact HO_38.out⟩,⟨q21_⟩⟩
              ·rw [if_neg c29] at H;exact absurd H (by simp)
             ·rw [if_neg c28] at H;exact absurd H (by simp)
            ·rw [if_neg c27] at H;exact absurd H (by simp)
           ·rw [if_neg c26] at H;exact absurd H (by simp)
          ·rw [if_neg c25] at H;have c25b0 : decide (x40_3 < (t111.length : Int)) = false:=decide_eq_false c25;clear c25;simp only [Option.some.injEq,Prod.mk.injEq] at H;obtain ⟨rfl,rfl,rfl⟩:=H;go_wp2;go_ret3
           exact ⟨_,q4_,by (with_reducible repeat (first | apply Kd.R_alloc | apply Kd.R_drewN | apply Kd.R_drew));exact HO_9.out,q21_⟩
       ·rw [if_neg c18] at H;exact absurd H (by simp)
/-! ### impl_FewestChanges: function 51 -/
def impl_FewestChanges.f (k : Nat) (l0 : List (S77)) : Option (List Int × Bool):=(impl_ArePeople.f k l0).bind fun t101=>(if t101 = true then ((impl_changes.f l0).bind fun t102=>(some (t102,true))) else (some (([] : List Int),false)))
set_option maxHeartbeats 8000000 in
set_option maxRecDepth 100000 in
theorem impl_FewestChanges.calls (k : Nat) (A0 : Option Addr) (c0 : Nat) (l0 : List (S77)) (r1 : List Int) (r2 : Bool) (w : World) (hr0 : Kd.C k77 w A0 l0.length l0) (hc0 : l0.length ≤ c0) (h : impl_FewestChanges.f k l0 = some (r1,r2)) :
  Calls Try.prog 51 #[.slice A0 l0.length c0] w fun e w' => ∃ v0_ : Value,e = .returned (.tuple #[v0_,.bool r2]) ∧ Kd.R (Kd.int .i64) 3 w' w.heap.size (fun _=>True) v0_ r1 ∧ Below w.heap.size w w' := by
 have HR0:=Aside0.mk hr0;have HC0:=Aside0.mk hc0;clear hr0 hc0;have HB:=Aside0.mk (Below.refl w.heap.size w);have H : ((impl_ArePeople.f k l0).bind fun t101=>(if t101 = true then ((impl_changes.f l0).bind fun t102=>(some (t102,true))) else (some (([] : List Int),false)))) = some (r1,r2):=h;clear h;replace H:=Option.bind_eq_some_iff.mp H;obtain ⟨t101,A20,H⟩:=H;(try dsimp only at H);have A2:=Aside0.mk A20;clear A20;by_cases c3 : t101 = true
 ·subst c3;have H1 : ((impl_changes.f l0).bind fun t102=>(some (t102,true))) = some (r1,r2):=by rw [if_pos rfl] at H;exact H
  clear H;have H:=H1;clear H1;replace H:=Option.bind_eq_some_iff.mp H;obtain ⟨t102,A40,H⟩:=H;(try dsimp only at H);have A4:=Aside0.mk A40;clear A40;simp only [Option.some.injEq,Prod.mk.injEq] at H;obtain ⟨rfl,rfl⟩:=H;go_enter Try.func51,Try.ntmps51
  go_wp2_with (first | ((with_reducible refine gate_callee (f:=58) rfl ?_);refine goesL_ (some 5) rfl rfl Try.func58 (by kernel_rfl) rfl #[.slice A0 l0.length c0] rfl (q22_) ?_;(with_reducible refine (impl_ArePeople.calls k _ _ l0 true _ ?side1 ?side2 A2.out).mono ?_);(case side1=>exact cX_ HR0.out);(case side2=>exact HC0.out);rintro e w5 ⟨rfl,hb⟩;refine ⟨_,rfl,?_⟩;replace HB:=bS_ HB hb;(try clear hb)) | ((with_reducible refine gate_callee (f:=160) rfl ?_);refine goesL_ (some 8) rfl rfl Try.func160 (by kernel_rfl) rfl #[.slice A0 l0.length c0] rfl (q22_) ?_;(with_reducible refine (impl_changes.calls _ _ l0 t102 _ ?side1 ?side2 A4.out).mono ?_);(case side1=>exact cX_ (Kd.C_below HR0.out HB.out));(case side2=>exact HC0.out);rintro e w6 ⟨v103,rfl,ho0,hb⟩;refine ⟨_,rfl,?_⟩;have HO104:=Aside0.mk (Kd.R_lower ho0 (below_size (q21_)));replace HB:=bS_ HB hb;(try clear hb);(try clear ho0)))
  go_ret2
  exact ⟨_,q4_,q11_,q21_⟩
 ·replace c3:=Bool.eq_false_iff.mpr c3;subst c3;have H1 : (some (([] : List Int),false)) = some (r1,r2):=by rw [if_neg (show ¬ (false = true) by decide)] at H;exact H
  clear H;have H:=H1;clear H1;simp only [Option.some.injEq,Prod.mk.injEq] at H;obtain ⟨rfl,rfl⟩:=H;go_enter Try.func51,Try.ntmps51
  go_wp2_with (first | ((with_reducible refine gate_callee (f:=58) rfl ?_);refine goesL_ (some 5) rfl rfl Try.func58 (by kernel_rfl) rfl #[.slice A0 l0.length c0] rfl (q22_) ?_;(with_reducible refine (impl_ArePeople.calls k _ _ l0 false _ ?side1 ?side2 A2.out).mono ?_);(case side1=>exact cX_ HR0.out);(case side2=>exact HC0.out);rintro e w7 ⟨rfl,hb⟩;refine ⟨_,rfl,?_⟩;replace HB:=bS_ HB hb;(try clear hb)))
  go_ret2
  exact ⟨_,q4_,q23_,q21_⟩
/-! ### spec_FewestChanges: function 52 -/
def spec_FewestChanges.f (k : Nat) (l0 : List (S77)) : Option (List Int × Bool):=(spec_naGood.f k l0).bind fun t101=>(if t101 = true then ((spec_naChanges.f k l0).bind fun t102=>(some (t102,true))) else (some (([] : List Int),false)))
set_option maxHeartbeats 8000000 in
set_option maxRecDepth 100000 in
theorem spec_FewestChanges.calls (k : Nat) (A0 : Option Addr) (c0 : Nat) (l0 : List (S77)) (r1 : List Int) (r2 : Bool) (w : World) (hr0 : Kd.C k77 w A0 l0.length l0) (hc0 : l0.length ≤ c0) (h : spec_FewestChanges.f k l0 = some (r1,r2)) :
  Calls Try.prog 52 #[.slice A0 l0.length c0] w fun e w' => ∃ v0_ : Value,e = .returned (.tuple #[v0_,.bool r2]) ∧ Kd.R (Kd.int .i64) 3 w' w.heap.size (fun _=>True) v0_ r1 ∧ Below w.heap.size w w' := by
 have HR0:=Aside0.mk hr0;have HC0:=Aside0.mk hc0;clear hr0 hc0;have HB:=Aside0.mk (Below.refl w.heap.size w);have H : ((spec_naGood.f k l0).bind fun t101=>(if t101 = true then ((spec_naChanges.f k l0).bind fun t102=>(some (t102,true))) else (some (([] : List Int),false)))) = some (r1,r2):=h;clear h;replace H:=Option.bind_eq_some_iff.mp H;obtain ⟨t101,A20,H⟩:=H;(try dsimp only at H);have A2:=Aside0.mk A20;clear A20;by_cases c3 : t101 = true
 ·subst c3;have H1 : ((spec_naChanges.f k l0).bind fun t102=>(some (t102,true))) = some (r1,r2):=by rw [if_pos rfl] at H;exact H
  clear H;have H:=H1;clear H1;replace H:=Option.bind_eq_some_iff.mp H;obtain ⟨t102,A40,H⟩:=H;(try dsimp only at H);have A4:=Aside0.mk A40;clear A40;simp only [Option.some.injEq,Prod.mk.injEq] at H;obtain ⟨rfl,rfl⟩:=H;go_enter Try.func52,Try.ntmps52
  go_wp2_with (first | ((with_reducible refine gate_callee (f:=162) rfl ?_);refine goesL_ (some 5) rfl rfl Try.func162 (by kernel_rfl) rfl #[.slice A0 l0.length c0] rfl (q22_) ?_;(with_reducible refine (spec_naGood.calls k _ _ l0 true _ ?side1 ?side2 A2.out).mono ?_);(case side1=>exact cX_ HR0.out);(case side2=>exact HC0.out);rintro e w5 ⟨rfl,hb⟩;refine ⟨_,rfl,?_⟩;replace HB:=bS_ HB hb;(try clear hb)) | ((with_reducible refine gate_callee (f:=164) rfl ?_);refine goesL_ (some 8) rfl rfl Try.func164 (by kernel_rfl) rfl #[.slice A0 l0.length c0] rfl (q22_) ?_;(with_reducible refine (spec_naChanges.calls k _ _ l0 t102 _ ?side1 ?side2 A4.out).mono ?_);(case side1=>exact cX_ (Kd.C_below HR0.out HB.out));(case side2=>exact HC0.out);rintro e w6 ⟨v103,rfl,ho0,hb⟩;refine ⟨_,rfl,?_⟩;have HO104:=Aside0.mk (Kd.R_lower ho0 (below_size (q21_)));replace HB:=bS_ HB hb;(try clear hb);(try clear ho0)))
  go_ret2
  exact ⟨_,q4_,q11_,q21_⟩
 ·replace c3:=Bool.eq_false_iff.mpr c3;subst c3;have H1 : (some (([] : List Int),false)) = some (r1,r2):=by rw [if_neg (show ¬ (false = true) by decide)] at H;exact H
  clear H;have H:=H1;clear H1;simp only [Option.some.injEq,Prod.mk.injEq] at H;obtain ⟨rfl,rfl⟩:=H;go_enter Try.func52,Try.ntmps52
  go_wp2_with (first | ((with_reducible refine gate_callee (f:=162) rfl ?_);refine goesL_ (some 5) rfl rfl Try.func162 (by kernel_rfl) rfl #[.slice A0 l0.length c0] rfl (q22_) ?_;(with_reducible refine (spec_naGood.calls k _ _ l0 false _ ?side1 ?side2 A2.out).mono ?_);(case side1=>exact cX_ HR0.out);(case side2=>exact HC0.out);rintro e w7 ⟨rfl,hb⟩;refine ⟨_,rfl,?_⟩;replace HB:=bS_ HB hb;(try clear hb)))
  go_ret2
  exact ⟨_,q4_,q23_,q21_⟩
end Go.Proofs.Ytgapcmmhbegdeaa.G
