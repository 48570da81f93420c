-- Written by this session's own program over the kit's print (wip/tools/myprint.py); Lean checks it.
import Derived.Test.YtgapcmmhbegdeaaMBase
import Derived.Test.YtgapcmmhbegdeaaG0
import Derived.Test.YtgapcmmhbegdeaaG1
import Derived.Test.YtgapcmmhbegdeaaG3
import Derived.Test.YtgapcmmhbegdeaaG4
import Derived.Test.YtgapcmmhbegdeaaG6
import Derived.Test.YtgapcmmhbegdeaaG8
import Derived.Test.YtgapcmmhbegdeaaG10
namespace Go.Proofs.Ytgapcmmhbegdeaa.G
open Go.RowKit Go.Proofs.YtgapcmmhbegdeaaW.PrintWords Go.Proofs.YtgapcmmhbegdeaaW.PrintLast Go.Proofs.YtgapcmmhbegdeaaW.PrintMore
attribute [local go_sem] max2_int min2_int max_two min_two max_three min_three max_four min_four str_geq str_gtr str_leq   -- for this text's walks alone
set_option linter.unusedVariables false
set_option linter.unusedSimpArgs false
/-! ### impl_NoteAt: function 43 -/
def impl_NoteAt.j0 : Nat → List (S58) → Int → Bool → Option (Int × Bool)
 | 0,_,_,_=>none
 | k + 1,x0,x1,x14=>if x14 = true then (some (0,false)) else ((impl_noteAt.f x0 x1).bind fun t103=>(if t103 < 0 then (some (0,false)) else (some (t103,true))))
def impl_NoteAt.f (k : Nat) (l0 : List (S58)) (a1 : Int) : Option (Int × Bool):=(impl_IsTier.f k l0).bind fun t101=>(if t101 = true then ((impl_isFrame.f a1).bind fun t102=>(impl_NoteAt.j0 k l0 a1 (!t102))) else (impl_NoteAt.j0 k l0 a1 true))
set_option maxHeartbeats 8000000 in
set_option maxRecDepth 100000 in
theorem impl_NoteAt.calls (k : Nat) (A0 : Option Addr) (c0 : Nat) (l0 : List (S58)) (a1 : Int) (r1 : Int) (r2 : Bool) (w : World) (hr0 : Kd.C k58 w A0 l0.length l0) (hc0 : l0.length ≤ c0) (h : impl_NoteAt.f k l0 a1 = some (r1,r2)) :
  Calls Try.prog 43 #[.slice A0 l0.length c0,.int .i64 a1] w fun e w' => e = .returned (.tuple #[.int .i64 r1,.bool r2]) ∧ Below w.heap.size w w' := by
 have HR0:=Aside0.mk hr0;have HC0:=Aside0.mk hc0;clear hr0 hc0;have HB:=Aside0.mk (Below.refl w.heap.size w);have H : ((impl_IsTier.f k l0).bind fun t101=>(if t101 = true then ((impl_isFrame.f a1).bind fun t102=>(impl_NoteAt.j0 k l0 a1 (!t102))) else (impl_NoteAt.j0 k l0 a1 true))) = some (r1,r2):=h;clear h;have HC3:=Aside0.mk H;clear H;go_enter Try.func43,Try.ntmps43
 go_upto_region 1 with (fail)
 go_cut [14] (fun v14 wc=>∃ (kq : Nat) (x14_2 : Bool),v14 = .bool x14_2 ∧ Aside0 (impl_NoteAt.j0 kq l0 a1 x14_2 = some (r1,r2)) ∧ Aside0 (kq ≤ k) ∧ Aside0 (Below w.heap.size w wc))
 case first =>
  have H:=HC3.out;clear HC3;replace H:=Option.bind_eq_some_iff.mp H;obtain ⟨t101,A40,H⟩:=H;(try dsimp only at H);have A4:=Aside0.mk A40;clear A40;by_cases c5 : t101 = true
  ·subst c5;have H1 : ((impl_isFrame.f a1).bind fun t102=>(impl_NoteAt.j0 k l0 a1 (!t102))) = some (r1,r2):=by rw [if_pos rfl] at H;exact H
   clear H;have H:=H1;clear H1;replace H:=Option.bind_eq_some_iff.mp H;obtain ⟨t102,A60,H⟩:=H;(try dsimp only at H);have A6:=Aside0.mk A60;clear A60;have H' := Aside0.mk H;clear H;go_wp2_with (first | ((with_reducible refine gate_callee (f:=46) rfl ?_);refine goesL_ (some 8) rfl rfl Try.func46 (by kernel_rfl) rfl #[.slice A0 l0.length c0] rfl (q18_) ?_;(with_reducible refine (impl_IsTier.calls k _ _ l0 true _ ?side1 ?side2 A4.out).mono ?_);(case side1=>exact cX_ (Kd.C_below HR0.out HB.out));(case side2=>exact HC0.out);rintro e w7 ⟨rfl,hb⟩;refine ⟨_,rfl,?_⟩;replace HB:=bS_ HB hb;(try clear hb)) | (go_at_call 149;(with_reducible refine (impl_isFrame.calls a1 t102 _ A6.out).mono ?_);rintro e w' ⟨rfl,⟨nd,rfl⟩⟩))
   go_meet
   case rel=>exact ⟨_,(!t102),(q2_),H', ⟨q1_⟩,⟨q17_⟩⟩
  ·replace c5:=Bool.eq_false_iff.mpr c5;subst c5;have H1 : (impl_NoteAt.j0 k l0 a1 true) = some (r1,r2):=by rw [if_neg (show ¬ (false = true) by decide)] at H;exact H
   clear H;have H:=H1;clear H1;have H' := Aside0.mk H;clear H;go_wp2_with (first | ((with_reducible refine gate_callee (f:=46) rfl ?_);refine goesL_ (some 8) rfl rfl Try.func46 (by kernel_rfl) rfl #[.slice A0 l0.length c0] rfl (q18_) ?_;(with_reducible refine (impl_IsTier.calls k _ _ l0 false _ ?side1 ?side2 A4.out).mono ?_);(case side1=>exact cX_ (Kd.C_below HR0.out HB.out));(case side2=>exact HC0.out);rintro e w8 ⟨rfl,hb⟩;refine ⟨_,rfl,?_⟩;replace HB:=bS_ HB hb;(try clear hb)))
   go_meet
   case rel=>exact ⟨_,(true),(q2_),H', ⟨q1_⟩,⟨q17_⟩⟩
 case rest =>
  clear HC3;try clear c5
  obtain ⟨kq,x14_2,rfl,HA,HJ2,HB⟩:=hcut;cases kq with
  | zero=>exact absurd HA.out (by simp [impl_NoteAt.j0])
  | succ kj2 =>
   have H:=HA.out;clear HA;simp only [impl_NoteAt.j0] at H;by_cases c9 : x14_2 = true
   ·subst c9;have H1 : (some (0,false)) = some (r1,r2):=by rw [if_pos rfl] at H;exact H
    clear H;have H:=H1;clear H1;simp only [Option.some.injEq,Prod.mk.injEq] at H;obtain ⟨rfl,rfl⟩:=H;go_wp2;go_ret2
    exact ⟨q5_,q17_⟩
   ·replace c9:=Bool.eq_false_iff.mpr c9;subst c9;have H1 : ((impl_noteAt.f l0 a1).bind fun t103=>(if t103 < 0 then (some (0,false)) else (some (t103,true)))) = some (r1,r2):=by rw [if_neg (show ¬ (false = true) by decide)] at H;exact H
    clear H;have H:=H1;clear H1;replace H:=Option.bind_eq_some_iff.mp H;obtain ⟨t103,A100,H⟩:=H;(try dsimp only at H);have A10:=Aside0.mk A100;clear A100;by_cases c11 : t103 < 0
    ·rw [if_pos c11] at H;have c11b0 : decide (t103 < 0) = true:=decide_eq_true c11;clear c11;simp only [Option.some.injEq,Prod.mk.injEq] at H;obtain ⟨rfl,rfl⟩:=H;go_wp2_with (first | ((with_reducible refine gate_callee (f:=150) rfl ?_);refine goesL_ (some 17) rfl rfl Try.func150 (by kernel_rfl) rfl #[.slice A0 l0.length c0,.int .i64 a1] rfl (q18_) ?_;(with_reducible refine (impl_noteAt.calls _ _ l0 a1 t103 _ ?side1 ?side2 A10.out).mono ?_);(case side1=>exact cX_ (Kd.C_below HR0.out HB.out));(case side2=>exact HC0.out);rintro e w12 ⟨rfl,hb⟩;refine ⟨_,rfl,?_⟩;replace HB:=bS_ HB hb;(try clear hb)))
     go_ret2
     exact ⟨q5_,q17_⟩
    ·rw [if_neg c11] at H;have c11b0 : decide (t103 < 0) = false:=decide_eq_false c11;clear c11;simp only [Option.some.injEq,Prod.mk.injEq] at H;obtain ⟨rfl,rfl⟩:=H;go_wp2_with (first | ((with_reducible refine gate_callee (f:=150) rfl ?_);refine goesL_ (some 17) rfl rfl Try.func150 (by kernel_rfl) rfl #[.slice A0 l0.length c0,.int .i64 a1] rfl (q18_) ?_;(with_reducible refine (impl_noteAt.calls _ _ l0 a1 t103 _ ?side1 ?side2 A10.out).mono ?_);(case side1=>exact cX_ (Kd.C_below HR0.out HB.out));(case side2=>exact HC0.out);rintro e w13 ⟨rfl,hb⟩;refine ⟨_,rfl,?_⟩;replace HB:=bS_ HB hb;(try clear hb)))
     go_ret2
     exact ⟨q5_,q17_⟩
/-! ### spec_tiAt: function 152 -/
def spec_tiAt.l0 : Nat → Int → List (S58) → Int → Int → Option (Int)
 | 0,_,_,_,_=>none
 | k + 1,x1,x7,x8,x9=>if x9 < x8 then (if 0 ≤ x9 then (if x9 < (x7.length : Int) then ((spec_l1In.f x1 ((rd_T58 x7 x9).f0) (wrap64 (((rd_T58 x7 x9).f1) - 1))).bind fun t103=>(if t103 = true then (some x9) else (spec_tiAt.l0 k x1 x7 x8 (wrap64 (x9 + 1))))) else (none)) else (none)) else (some (-1))
def spec_tiAt.f (k : Nat) (l0 : List (S58)) (a1 : Int) : Option (Int):=spec_tiAt.l0 k a1 l0 (l0.length : Int) 0
set_option maxHeartbeats 8000000 in
set_option maxRecDepth 100000 in
theorem spec_tiAt.calls (k : Nat) (A0 : Option Addr) (c0 : Nat) (l0 : List (S58)) (a1 : Int) (r : Int) (w : World) (hr0 : Kd.C k58 w A0 l0.length l0) (hc0 : l0.length ≤ c0) (h : spec_tiAt.f k l0 a1 = some r) :
  Calls Try.prog 152 #[.slice A0 l0.length c0,.int .i64 a1] w fun e w' => e = .returned (.int .i64 r) ∧ Below w.heap.size w w' := by
 have hu58:=Try.underlying58;have HR0:=Aside0.mk hr0;have HC0:=Aside0.mk hc0;clear hr0 hc0;have HB:=Aside0.mk (Below.refl w.heap.size w);have H : (spec_tiAt.l0 k a1 l0 (l0.length : Int) 0) = some r:=h;clear h;have H' := Aside0.mk H;clear H;go_enter Try.func152,Try.ntmps152
 go_wp2;go_loopg [9] k (fun kq v9 w' => ∃ (x9_1 : Int),v9 = .int .i64 x9_1 ∧ Aside0 (spec_tiAt.l0 kq a1 l0 (l0.length : Int) x9_1 = some r) ∧ Aside0 (kq ≤ k) ∧ Aside0 (Below w.heap.size w w'))
 case atStart=>exact ⟨(0),(q2_),H', ⟨Nat.le_refl _⟩,⟨q17_⟩⟩
 case round =>
  clear H';obtain ⟨x9_1,rfl,HA,HK1,HB⟩:=hrel;cases gk with
  | zero=>exact absurd HA.out (by simp [spec_tiAt.l0])
  | succ k1 =>
   have H:=HA.out;clear HA;simp only [spec_tiAt.l0] at H;by_cases c3 : x9_1 < (l0.length : Int)
   ·rw [if_pos c3] at H;have c3b0 : decide (x9_1 < (l0.length : Int)) = true:=decide_eq_true c3;clear c3;by_cases c4 : 0 ≤ x9_1
    ·rw [if_pos c4] at H;have c4b0 : decide (0 ≤ x9_1) = true:=decide_eq_true c4;clear c4;by_cases c5 : x9_1 < (l0.length : Int)
     ·rw [if_pos c5] at H;have c5b0 : decide (x9_1 < (l0.length : Int)) = true:=decide_eq_true c5;clear c5;replace H:=Option.bind_eq_some_iff.mp H;obtain ⟨t103,A60,H⟩:=H;(try dsimp only at H);have A6:=Aside0.mk A60;clear A60;by_cases c7 : t103 = true
      ·subst c7;have H1 : (some x9_1) = some r:=by rw [if_pos rfl] at H;exact H
       clear H;have H:=H1;clear H1;obtain rfl:=Option.some.inj H;have p101 : 0 ≤ (x9_1 : Int):=of_decide_eq_true (q3_);have q101 : x9_1 < (l0.length : Int):=of_decide_eq_true (q3_);obtain ⟨ad101,e101,hx101_0,hx101_1,hx101_2⟩:=at_T58 HR0.out x9_1 p101 q101;cases e101;replace hx101_0:=hB_ HB.out hx101_0;replace hx101_1:=hB_ HB.out hx101_1;replace hx101_2:=hB_ HB.out hx101_2;replace p101:=eq_true p101;replace q101:=eq_true q101;go_wp2_with (first | ((with_reducible refine gate_dst (N:=6) rfl ?_);refine box_event ?hg (N:=6) ?hd (cs:=#[.int .i64 0,.int .i64 0,.string (⟨#[]⟩ : ByteArray)]) (t:=58) ?hr ?_;(case hd=>rfl);(case hg=>rfl);(case hr=>first | (go_simp;done) | (go_simp;rfl));intro gb102 hg w8 hbox hb;have BK102:=Aside0.mk (hbox);have GW102:=Aside0.mk ((q42_ : w.heap.size ≤ gb102));have GE102:=Aside0.mk ((q42_ : w.heap.size ≤ gb102));replace HB:=bS_ HB hb;clear hb hbox hg;have hcz9_0 : w8.cell? ⟨gb102,0,none⟩ = some (.int .i64 0):=(blk_cell BK102.out 0).trans rfl;have hcz9_1 : w8.cell? ⟨gb102,1,none⟩ = some (.int .i64 0):=(blk_cell BK102.out 1).trans rfl;have hcz9_2 : w8.cell? ⟨gb102,2,none⟩ = some (.string (⟨#[]⟩ : ByteArray)):=(blk_cell BK102.out 2).trans rfl;have hfz9_0:=blk_frozen BK102.out 0;have hfz9_1:=blk_frozen BK102.out 1;have hfz9_2:=blk_frozen BK102.out 2) | ((with_reducible refine gate_callee (f:=146) rfl ?_);refine goesL_ (some 20) rfl rfl Try.func146 (by kernel_rfl) rfl #[.int .i64 a1,.int .i64 ((rd_T58 l0 x9_1).f0),.int .i64 (wrap64 (((rd_T58 l0 x9_1).f1) - 1))] rfl (q18_) ?_;(with_reducible refine (spec_l1In.calls a1 ((rd_T58 l0 x9_1).f0) (wrap64 (((rd_T58 l0 x9_1).f1) - 1)) true _ A6.out).mono ?_);rintro e w' ⟨rfl,⟨nd,rfl⟩⟩;refine ⟨_,rfl,?_⟩))
       go_ret;exact ⟨q5_,q23_⟩
      ·replace c7:=Bool.eq_false_iff.mpr c7;subst c7;have H1 : (spec_tiAt.l0 k1 a1 l0 (l0.length : Int) (wrap64 (x9_1 + 1))) = some r:=by rw [if_neg (show ¬ (false = true) by decide)] at H;exact H
       clear H;have H:=H1;clear H1;have H' := Aside0.mk H;clear H;have p101 : 0 ≤ (x9_1 : Int):=of_decide_eq_true (q3_);have q101 : x9_1 < (l0.length : Int):=of_decide_eq_true (q3_);obtain ⟨ad101,e101,hx101_0,hx101_1,hx101_2⟩:=at_T58 HR0.out x9_1 p101 q101;cases e101;replace hx101_0:=hB_ HB.out hx101_0;replace hx101_1:=hB_ HB.out hx101_1;replace hx101_2:=hB_ HB.out hx101_2;replace p101:=eq_true p101;replace q101:=eq_true q101;go_wp2_with (first | ((with_reducible refine gate_dst (N:=6) rfl ?_);refine box_event ?hg (N:=6) ?hd (cs:=#[.int .i64 0,.int .i64 0,.string (⟨#[]⟩ : ByteArray)]) (t:=58) ?hr ?_;(case hd=>rfl);(case hg=>rfl);(case hr=>first | (go_simp;done) | (go_simp;rfl));intro gb102 hg w10 hbox hb;have BK102:=Aside0.mk (hbox);have GW102:=Aside0.mk ((q42_ : w.heap.size ≤ gb102));have GE102:=Aside0.mk ((q42_ : w.heap.size ≤ gb102));replace HB:=bS_ HB hb;clear hb hbox hg;have hcz11_0 : w10.cell? ⟨gb102,0,none⟩ = some (.int .i64 0):=(blk_cell BK102.out 0).trans rfl;have hcz11_1 : w10.cell? ⟨gb102,1,none⟩ = some (.int .i64 0):=(blk_cell BK102.out 1).trans rfl;have hcz11_2 : w10.cell? ⟨gb102,2,none⟩ = some (.string (⟨#[]⟩ : ByteArray)):=(blk_cell BK102.out 2).trans rfl;have hfz11_0:=blk_frozen BK102.out 0;have hfz11_1:=blk_frozen BK102.out 1;have hfz11_2:=blk_frozen BK102.out 2) | ((with_reducible refine gate_callee (f:=146) rfl ?_);refine goesL_ (some 20) rfl rfl Try.func146 (by kernel_rfl) rfl #[.int .i64 a1,.int .i64 ((rd_T58 l0 x9_1).f0),.int .i64 (wrap64 (((rd_T58 l0 x9_1).f1) - 1))] rfl (q18_) ?_;(with_reducible refine (spec_l1In.calls a1 ((rd_T58 l0 x9_1).f0) (wrap64 (((rd_T58 l0 x9_1).f1) - 1)) false _ A6.out).mono ?_);rintro e w' ⟨rfl,⟨nd,rfl⟩⟩;refine ⟨_,rfl,?_⟩))
       go_roundg k1
       case measure=>have:=HK1.out;omega
       case rel=>exact ⟨(wrap64 (x9_1 + 1)),(q2_),H', ⟨by have:=HK1.out;omega⟩,⟨q23_⟩⟩
     ·rw [if_neg c5] at H;exact absurd H (by simp)
    ·rw [if_neg c4] at H;exact absurd H (by simp)
   ·rw [if_neg c3] at H;have c3b0 : decide (x9_1 < (l0.length : Int)) = false:=decide_eq_false c3;clear c3;obtain rfl:=Option.some.inj H;go_wp2;go_ret;exact ⟨q5_,q17_⟩
/-! ### spec_NoteAt: function 44 -/
def spec_NoteAt.f (k : Nat) (l0 : List (S58)) (a1 : Int) : Option (Int × Bool):=(spec_tiGood.f k l0).bind fun t101=>(if t101 = true then ((spec_tiFrame.f a1).bind fun t102=>(if t102 = true then ((spec_tiAt.f k l0 a1).bind fun t103=>(if t103 < 0 then (some (0,false)) else ((spec_tiAt.f k l0 a1).bind fun t104=>(some (t104,true))))) else (some (0,false)))) else (some (0,false)))
set_option maxHeartbeats 8000000 in
set_option maxRecDepth 100000 in
theorem spec_NoteAt.calls (k : Nat) (A0 : Option Addr) (c0 : Nat) (l0 : List (S58)) (a1 : Int) (r1 : Int) (r2 : Bool) (w : World) (hr0 : Kd.C k58 w A0 l0.length l0) (hc0 : l0.length ≤ c0) (h : spec_NoteAt.f k l0 a1 = some (r1,r2)) :
  Calls Try.prog 44 #[.slice A0 l0.length c0,.int .i64 a1] w fun e w' => e = .returned (.tuple #[.int .i64 r1,.bool r2]) ∧ Below w.heap.size w w' := by
 have HR0:=Aside0.mk hr0;have HC0:=Aside0.mk hc0;clear hr0 hc0;have HB:=Aside0.mk (Below.refl w.heap.size w);have H : ((spec_tiGood.f k l0).bind fun t101=>(if t101 = true then ((spec_tiFrame.f a1).bind fun t102=>(if t102 = true then ((spec_tiAt.f k l0 a1).bind fun t103=>(if t103 < 0 then (some (0,false)) else ((spec_tiAt.f k l0 a1).bind fun t104=>(some (t104,true))))) else (some (0,false)))) else (some (0,false)))) = some (r1,r2):=h;clear h;replace H:=Option.bind_eq_some_iff.mp H;obtain ⟨t101,A30,H⟩:=H;(try dsimp only at H);have A3:=Aside0.mk A30;clear A30;by_cases c4 : t101 = true
 ·subst c4;have H1 : ((spec_tiFrame.f a1).bind fun t102=>(if t102 = true then ((spec_tiAt.f k l0 a1).bind fun t103=>(if t103 < 0 then (some (0,false)) else ((spec_tiAt.f k l0 a1).bind fun t104=>(some (t104,true))))) else (some (0,false)))) = some (r1,r2):=by rw [if_pos rfl] at H;exact H
  clear H;have H:=H1;clear H1;replace H:=Option.bind_eq_some_iff.mp H;obtain ⟨t102,A50,H⟩:=H;(try dsimp only at H);have A5:=Aside0.mk A50;clear A50;by_cases c6 : t102 = true
  ·subst c6;have H1 : ((spec_tiAt.f k l0 a1).bind fun t103=>(if t103 < 0 then (some (0,false)) else ((spec_tiAt.f k l0 a1).bind fun t104=>(some (t104,true))))) = some (r1,r2):=by rw [if_pos rfl] at H;exact H
   clear H;have H:=H1;clear H1;replace H:=Option.bind_eq_some_iff.mp H;obtain ⟨t103,A70,H⟩:=H;(try dsimp only at H);have A7:=Aside0.mk A70;clear A70;by_cases c8 : t103 < 0
   ·rw [if_pos c8] at H;have c8b0 : decide (t103 < 0) = true:=decide_eq_true c8;clear c8;simp only [Option.some.injEq,Prod.mk.injEq] at H;obtain ⟨rfl,rfl⟩:=H;go_enter Try.func44,Try.ntmps44
    go_wp2_with (first | ((with_reducible refine gate_callee (f:=119) rfl ?_);refine goesL_ (some 7) rfl rfl Try.func119 (by kernel_rfl) rfl #[.slice A0 l0.length c0] rfl (q18_) ?_;(with_reducible refine (spec_tiGood.calls k _ _ l0 true _ ?side1 ?side2 A3.out).mono ?_);(case side1=>exact cX_ HR0.out);(case side2=>exact HC0.out);rintro e w9 ⟨rfl,hb⟩;refine ⟨_,rfl,?_⟩;replace HB:=bS_ HB hb;(try clear hb)) | (go_at_call 151;(with_reducible refine (spec_tiFrame.calls a1 true _ A5.out).mono ?_);rintro e w' ⟨rfl,⟨nd,rfl⟩⟩) | (go_at_call 152;(with_reducible refine (spec_tiAt.calls k _ _ l0 a1 t103 _ ?side1 ?side2 A7.out).mono ?_);(case side1=>repeat (first | exact (Kd.C_below HR0.out (q17_)) | (with_reducible refine Kd.C_alloc ?_ _) | (with_reducible refine Kd.C_drewN ?_ _) | (with_reducible refine Kd.C_drew ?_)));(case side2=>exact HC0.out);rintro e w10 ⟨rfl,hb⟩;replace HB:=bS_ HB hb;(try clear hb)))
    go_ret2
    exact ⟨q5_,q17_⟩
   ·rw [if_neg c8] at H;have c8b0 : decide (t103 < 0) = false:=decide_eq_false c8;clear c8;replace H:=Option.bind_eq_some_iff.mp H;obtain ⟨t104,A110,H⟩:=H;(try dsimp only at H);have A11:=Aside0.mk A110;clear A110;simp only [Option.some.injEq,Prod.mk.injEq] at H;obtain ⟨rfl,rfl⟩:=H;go_enter Try.func44,Try.ntmps44
    go_wp2_with (first | ((with_reducible refine gate_callee (f:=119) rfl ?_);refine goesL_ (some 7) rfl rfl Try.func119 (by kernel_rfl) rfl #[.slice A0 l0.length c0] rfl (q18_) ?_;(with_reducible refine (spec_tiGood.calls k _ _ l0 true _ ?side1 ?side2 A3.out).mono ?_);(case side1=>exact cX_ HR0.out);(case side2=>exact HC0.out);rintro e w12 ⟨rfl,hb⟩;refine ⟨_,rfl,?_⟩;replace HB:=bS_ HB hb;(try clear hb)) | (go_at_call 151;(with_reducible refine (spec_tiFrame.calls a1 true _ A5.out).mono ?_);rintro e w' ⟨rfl,⟨nd,rfl⟩⟩) | (go_at_call 152;(with_reducible refine (spec_tiAt.calls k _ _ l0 a1 t103 _ ?side1 ?side2 A7.out).mono ?_);(case side1=>repeat (first | exact (Kd.C_below HR0.out (q17_)) | (with_reducible refine Kd.C_alloc ?_ _) | (with_reducible refine Kd.C_drewN ?_ _) | (with_reducible refine Kd.C_drew ?_)));(case side2=>exact HC0.out);rintro e w13 ⟨rfl,hb⟩;replace HB:=bS_ HB hb;(try clear hb)) | ((with_reducible refine gate_callee (f:=152) rfl ?_);refine goesL_ (some 22) rfl rfl Try.func152 (by kernel_rfl) rfl #[.slice A0 l0.length c0,.int .i64 a1] rfl (q18_) ?_;(with_reducible refine (spec_tiAt.calls k _ _ l0 a1 t104 _ ?side1 ?side2 A11.out).mono ?_);(case side1=>exact cX_ (Kd.C_below HR0.out HB.out));(case side2=>exact HC0.out);rintro e w14 ⟨rfl,hb⟩;refine ⟨_,rfl,?_⟩;replace HB:=bS_ HB hb;(try clear hb)))
    go_ret2
    exact ⟨q5_,q17_⟩
  ·replace c6:=Bool.eq_false_iff.mpr c6;subst c6;have H1 : (some (0,false)) = some (r1,r2):=by rw [if_neg (show ¬ (false = true) by decide)] at H;exact H
   clear H;have H:=H1;clear H1;simp only [Option.some.injEq,Prod.mk.injEq] at H;obtain ⟨rfl,rfl⟩:=H;go_enter Try.func44,Try.ntmps44
   go_wp2_with (first | ((with_reducible refine gate_callee (f:=119) rfl ?_);refine goesL_ (some 7) rfl rfl Try.func119 (by kernel_rfl) rfl #[.slice A0 l0.length c0] rfl (q18_) ?_;(with_reducible refine (spec_tiGood.calls k _ _ l0 true _ ?side1 ?side2 A3.out).mono ?_);(case side1=>exact cX_ HR0.out);(case side2=>exact HC0.out);rintro e w15 ⟨rfl,hb⟩;refine ⟨_,rfl,?_⟩;replace HB:=bS_ HB hb;(try clear hb)) | (go_at_call 151;(with_reducible refine (spec_tiFrame.calls a1 false _ A5.out).mono ?_);rintro e w' ⟨rfl,⟨nd,rfl⟩⟩))
   go_ret2
   exact ⟨q5_,q17_⟩
 ·replace c4:=Bool.eq_false_iff.mpr c4;subst c4;have H1 : (some (0,false)) = some (r1,r2):=by rw [if_neg (show ¬ (false = true) by decide)] at H;exact H
  clear H;have H:=H1;clear H1;simp only [Option.some.injEq,Prod.mk.injEq] at H;obtain ⟨rfl,rfl⟩:=H;go_enter Try.func44,Try.ntmps44
  go_wp2_with (first | ((with_reducible refine gate_callee (f:=119) rfl ?_);refine goesL_ (some 7) rfl rfl Try.func119 (by kernel_rfl) rfl #[.slice A0 l0.length c0] rfl (q18_) ?_;(with_reducible refine (spec_tiGood.calls k _ _ l0 false _ ?side1 ?side2 A3.out).mono ?_);(case side1=>exact cX_ HR0.out);(case side2=>exact HC0.out);rintro e w16 ⟨rfl,hb⟩;refine ⟨_,rfl,?_⟩;replace HB:=bS_ HB hb;(try clear hb)))
  go_ret2
  exact ⟨q5_,q17_⟩
end Go.Proofs.Ytgapcmmhbegdeaa.G
