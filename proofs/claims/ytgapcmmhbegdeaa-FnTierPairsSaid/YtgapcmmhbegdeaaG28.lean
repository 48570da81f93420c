-- Written by this session's own program over the kit's print (wip/tools/myprint.py); Lean checks it.
import Derived.Test.YtgapcmmhbegdeaaMBase
import Derived.Test.YtgapcmmhbegdeaaG0
import Derived.Test.YtgapcmmhbegdeaaG17
namespace Go.Proofs.Ytgapcmmhbegdeaa.G
open Go.RowKit Go.Proofs.YtgapcmmhbegdeaaW.PrintWords Go.Proofs.YtgapcmmhbegdeaaW.PrintLast Go.Proofs.YtgapcmmhbegdeaaW.PrintMore
attribute [local go_sem] max2_int min2_int max_two min_two max_three min_three max_four min_four str_geq str_gtr str_leq   -- for this text's walks alone
set_option linter.unusedVariables false
set_option linter.unusedSimpArgs false
/-! ### yAC: function 200 -/
mutual
def yAC.l0 : Nat → List (S58) → List (S58) → Int → Int → List Int → Int → Int → Option ((List (S58)) × Int × Int)
 | 0,_,_,_,_,_,_,_=>none
 | k + 1,x5,x10,x11,x12,x1000,x1001,x1002=>if x12 < x11 then (if 0 ≤ x12 then (if x12 < (x10.length : Int) then ((yAN.f x1000 x1001 x1002 6).bind fun bt103=>(if bt103.1 = 0 then (yAC.l0 k x5 x10 x11 (wrap64 (x12 + 1)) x1000 bt103.2.1 bt103.2.2) else (if bt103.1 = 1 then ((yAl.f x1000 bt103.2.1 bt103.2.2 (([(⟨#[71,79]⟩ : ByteArray),(⟨#[73]⟩ : ByteArray),(⟨#[66,79,79,75]⟩ : ByteArray)] : List ByteArray))).bind fun bt109=>(yAC.j1 k x5 x10 x11 x12 x1000 bt109.2.1 bt109.2.2 ((rd_T58 x10 x12).f0) ((rd_T58 x10 x12).f1) bt109.1)) else (if bt103.1 = 2 then ((yAN.f x1000 bt103.2.1 bt103.2.2 3).bind fun bt112=>((yAc.f (wrap64 (((rd_T58 x10 x12).f0) + 1)) (wrap64 (((rd_T58 x10 x12).f1) - bt112.1))).bind fun t115=>(yAC.j1 k x5 x10 x11 x12 x1000 bt112.2.1 bt112.2.2 ((rd_T58 x10 x12).f0) t115 ((rd_T58 x10 x12).f2)))) else (yAC.j1 k x5 x10 x11 x12 x1000 bt103.2.1 bt103.2.2 ((rd_T58 x10 x12).f0) ((rd_T58 x10 x12).f1) ((rd_T58 x10 x12).f2)))))) else (none)) else (none)) else (if (x5.length : Int) > 0 then (if (x5.length : Int) < 40 then ((yAr.f x1000 x1001 x1002 2).bind fun bt120=>(yAC.j3 k x5 (x5.length : Int) bt120.1 x1000 bt120.2.1 bt120.2.2)) else (yAC.j3 k x5 (x5.length : Int) false x1000 x1001 x1002)) else (yAC.j3 k x5 (x5.length : Int) false x1000 x1001 x1002))
def yAC.j1 : Nat → List (S58) → List (S58) → Int → Int → List Int → Int → Int → Int → Int → ByteArray → Option ((List (S58)) × Int × Int)
 | 0,_,_,_,_,_,_,_,_,_,_=>none
 | k + 1,x5,x10,x11,x12,x1000,x1001,x1002,x103000,x103001,x103002=>if (x5.length : Int) = 0 then (yAC.j2 k x5 x10 x11 x12 true x1000 x1001 x1002 x103000 x103001 x103002) else (if 0 ≤ (wrap64 ((x5.length : Int) - 1)) then (if (wrap64 ((x5.length : Int) - 1)) < (x5.length : Int) then (yAC.j2 k x5 x10 x11 x12 (decide (((rd_T58 x5 (wrap64 ((x5.length : Int) - 1))).f1) ≤ x103000)) x1000 x1001 x1002 x103000 x103001 x103002) else (none)) else (none))
def yAC.j2 : Nat → List (S58) → List (S58) → Int → Int → Bool → List Int → Int → Int → Int → Int → ByteArray → Option ((List (S58)) × Int × Int)
 | 0,_,_,_,_,_,_,_,_,_,_,_=>none
 | k + 1,x5,x10,x11,x12,x52,x1000,x1001,x1002,x103000,x103001,x103002=>if x52 = true then (if x5.length < 4398046511104 then (yAC.l0 k (x5 ++ [(⟨x103000,x103001,x103002⟩ : S58)]) x10 x11 (wrap64 (x12 + 1)) x1000 x1001 x1002) else (none)) else (yAC.l0 k x5 x10 x11 (wrap64 (x12 + 1)) x1000 x1001 x1002)
def yAC.j3 : Nat → List (S58) → Int → Bool → List Int → Int → Int → Option ((List (S58)) × Int × Int)
 | 0,_,_,_,_,_,_=>none
 | k + 1,x5,x9,x69,x1000,x1001,x1002=>if x69 = true then (if 0 ≤ (wrap64 (x9 - 1)) then (if (wrap64 (x9 - 1)) < (x5.length : Int) then ((yAN.f x1000 x1001 x1002 4).bind fun bt124=>((yBF.f x1000 bt124.2.1 bt124.2.2 (wrap64 (((rd_T58 x5 (wrap64 (x9 - 1))).f1) + bt124.1))).bind fun bt127=>(if x5.length < 4398046511104 then (some ((x5 ++ [(⟨bt127.1,bt127.2.1,bt127.2.2.1⟩ : S58)]),bt127.2.2.2.1,bt127.2.2.2.2)) else (none)))) else (none)) else (none)) else (some (x5,x1001,x1002))
end
def yAC.f (k : Nat) (s0_0 : List Int) (s0_1 : Int) (s0_2 : Int) (l1 : List (S58)) : Option ((List (S58)) × Int × Int):=yAC.l0 k ([] : List (S58)) l1 (l1.length : Int) 0 s0_0 s0_1 s0_2
def yAC.T10 : Bool × List (List Nat × List Nat):=(true,[([],[]),([0],[0]),([1],[1]),([],[]),([3],[3]),([],[]),([5],[5]),([4,6],[4,6]),([2,7,6],[2,7]),([0,1,2,3,4,5,6,7,8],[]),([9,8,8,0,1,2,3,4,5,6,7,8],[8,9])])
def yAC.B10 : List Nat:=[0,1,3,0,8,0,32,120,255,511,1023]
theorem yAC.tab10 : rtab .any (opsOf Try.f200 10) = yAC.T10:=by kernel_rfl
theorem yAC.bits10 : waitsOk yAC.T10.2 yAC.B10 = true:=by kernel_rfl
def yAC.T12 : Bool × List (List Nat × List Nat):=(true,[([],[]),([0],[0]),([1],[1]),([2],[2]),([2],[2]),([4,2],[2,4]),([3,5,2],[2,3,5]),([6,2],[2,6]),([7,2],[2,7]),([2],[2]),([9,2],[2,9]),([8,10,2],[2,8,10]),([2,11],[2,11])])
def yAC.B12 : List Nat:=[0,1,3,7,7,23,63,127,255,7,519,2047,4095]
theorem yAC.tab12 : rtab .any (opsOf Try.f200 12) = yAC.T12:=by kernel_rfl
theorem yAC.bits12 : waitsOk yAC.T12.2 yAC.B12 = true:=by kernel_rfl
def yAC.T17 : Bool × List (List Nat × List Nat):=(true,[([],[]),([],[]),([],[]),([],[]),([3],[3]),([2,4],[2,4]),([5],[5]),([6],[6]),([],[]),([8],[8]),([7,9],[7,9]),([1,10,9],[1,10]),([11],[11]),([0,12,11],[0,12]),([13,13,0,1,2,3,4,5,6,7,8,9,10,11,12,13],[0,2,13])])
def yAC.B17 : List Nat:=[0,0,0,0,8,28,60,124,0,256,1020,2046,4094,8191,16383]
theorem yAC.tab17 : rtab .any (opsOf Try.f200 17) = yAC.T17:=by kernel_rfl
theorem yAC.bits17 : waitsOk yAC.T17.2 yAC.B17 = true:=by kernel_rfl
set_option maxHeartbeats 8000000 in
set_option maxRecDepth 100000 in
theorem yAC.calls (k : Nat) (g : Nat) (s0_0 : List Int) (s0_1 : Int) (s0_2 : Int) (A1 : Option Addr) (c1 : Nat) (l1 : List (S58)) (r1 : List (S58)) (r2 : Int) (r3 : Int) (w0 w : World) (hI : IsS145 w0 w g s0_0 s0_1 s0_2) (hB : Below w0.heap.size w0 w) (hr1 : ∀ W_,KeepBut w W_ g none → Kd.C k58 W_ A1 l1.length l1) (hc1 : l1.length ≤ c1) (h : yAC.f k s0_0 s0_1 s0_2 l1 = some (r1,r2,r3)) :
  Calls Try.prog 200 #[.pointer (some ⟨g,0,none⟩),.slice A1 l1.length c1] w fun e w' => ∃ v0_ : Value,e = .returned (v0_) ∧ Kd.R k58 58 w' w.heap.size (fun _=>True) v0_ r1 ∧ IsS145 w0 w' g s0_0 r2 r3 ∧ Below w0.heap.size w0 w' ∧ KeepBut w w' g none:=by
 have hu58:=Try.underlying58;have HR1:=Aside0.mk hr1;have HC1:=Aside0.mk hc1;clear hr1 hc1;have HI0:=Aside0.mk hI;have HK:=Aside0.mk (KeepBut.refl w g none);have HL:=Aside0.mk hB.size;clear hI;have HW0:=Aside0.mk hB.size;have HB:=Aside0.mk hB;clear hB;have H : (yAC.l0 k ([] : List (S58)) l1 (l1.length : Int) 0 s0_0 s0_1 s0_2) = some (r1,r2,r3):=h;clear h;have H' := Aside0.mk H;clear H;go_enter Try.func200,Try.ntmps200
 go_wp2;go_loopg [5,12] k (fun kq v5 v12 w' => ∃ (x5_1 : List (S58)) (x12_1 : Int) (x1001_1 : Int) (x1002_1 : Int),v12 = .int .i64 x12_1 ∧ Aside0 (yAC.l0 kq x5_1 l1 (l1.length : Int) x12_1 s0_0 x1001_1 x1002_1 = some (r1,r2,r3)) ∧ Aside0 (kq ≤ k) ∧ Aside0 (Kd.R k58 58 w' w.heap.size (fun _=>True) v5 x5_1) ∧ Aside0 (IsS145 w0 w' g s0_0 x1001_1 x1002_1) ∧ Aside0 (KeepBut w w' g none) ∧ Aside0 (Below w0.heap.size w0 w'))
 case atStart=>exact ⟨(([] : List (S58))),(0),(s0_1),(s0_2),(q1_),H', ⟨Nat.le_refl _⟩,⟨q24_⟩,⟨q30_⟩,⟨q25_⟩,⟨q29_⟩⟩
 case round =>
  clear H';try clear c1
  obtain ⟨x5_1,x12_1,x1001_1,x1002_1,rfl,HA,HK1,HO_5,HI0,HK,HB⟩:=hrel;cases gk with
  | zero=>exact absurd HA.out (by simp [yAC.l0])
  | succ k1 =>
   have H:=HA.out;clear HA;simp only [yAC.l0] at H;by_cases c3 : x12_1 < (l1.length : Int)
   ·rw [if_pos c3] at H;have c3b0:=decide_eq_true c3;clear c3;by_cases c4 : 0 ≤ x12_1
    ·rw [if_pos c4] at H;have c4b0:=decide_eq_true c4;clear c4;by_cases c5 : x12_1 < (l1.length : Int)
     ·rw [if_pos c5] at H;have c5b0:=decide_eq_true c5;clear c5;replace H:=Option.bind_eq_some_iff.mp H;obtain ⟨⟨t103,t104,t105⟩,A60,H⟩:=H;(try dsimp only at H);have A6:=Aside0.mk A60;clear A60;have HC7:=Aside0.mk H;clear H;have p101 : 0 ≤ (x12_1 : Int):=of_decide_eq_true (q2_);have q101 : x12_1 < (l1.length : Int):=of_decide_eq_true (q2_);obtain ⟨ad101,e101,hx101_0,hx101_1,hx101_2⟩:=at_T58 (Kd.C_foot_now HR1.out HK.out) x12_1 p101 q101;cases e101;replace p101:=eq_true p101;replace q101:=eq_true q101;go_upto_block 2 with (first | ((with_reducible refine gate_dst (N:=7) rfl ?_);refine box_event ?hg (N:=7) ?hd (cs:=#[.int .i64 0,.int .i64 0,.string (⟨#[]⟩ : ByteArray)]) (t:=58) ?hr ?_;(case hd=>rfl);(case hg=>rfl);(case hr=>first | (go_simp;done) | (go_simp;rfl));intro gb102 hg w8 hbox hb;replace HO_5:=Aside0.mk (Kd.R_below (Kd.R_elderB (q6_) gb102 (Nat.le_of_eq hg.symm)) hb);replace HB:=Aside0.mk (below_step (q29_) hb);have BK102:=Aside0.mk (hbox);have GW102:=Aside0.mk ((by rw [hg];exact (keep_size (w:=w) (g:=g) (row:=none) (q25_)) : w.heap.size ≤ gb102));have GE102:=Aside0.mk ((Nat.le_trans HW0.out (by rw [hg];exact (keep_size (w:=w) (g:=g) (row:=none) (q25_)) : w.heap.size ≤ gb102) : w0.heap.size ≤ gb102));replace HK:=Aside0.mk (KeepBut.trans (q25_) (KeepBut.of_below hb g none) (.inl rfl));have NB0_102:=Aside0.mk ((by rw [hg];exact Nat.ne_of_lt (IsS145.lt (show IsS145 w0 _ g s0_0 x1001_1 x1002_1 from by exact q30_)) : g ≠ gb102));have NB102_0:=Aside0.mk ((by rw [hg];exact Nat.ne_of_gt (IsS145.lt (show IsS145 w0 _ g s0_0 x1001_1 x1002_1 from by exact q30_)) : gb102 ≠ g));replace HI0:=Aside0.mk (IsS145.below (q30_) hb);clear hb hbox hg;have hnb9:=NB102_0.out;have hnc9:=NB0_102.out;obtain ⟨hcz10_0,hcz10_1,hcz10_2,hfz10_0,hfz10_1,hfz10_2⟩:=bx3_ BK102.out) | ((with_reducible refine gate_callee (f:=141) rfl ?_);refine goesL_ (some 17) rfl rfl Try.func141 (by kernel_rfl) rfl #[.pointer (some ⟨g,0,none⟩),.int .i64 6] rfl (q23_) ?_;(with_reducible refine (yAN.calls g s0_0 x1001_1 x1002_1 6 t103 t104 t105 w0 _ ?side1 ?side2 A6.out).mono ?_);(case side1=>exact (q45_));(case side2=>exact (q41_));rintro e w11 ⟨rfl,hi,hb,hk⟩;refine ⟨_,rfl,?_⟩;replace HO_5:=Aside0.mk (Kd.R_mono (Kd.R_keep (IsS145.apart (show IsS145 w0 _ g s0_0 x1001_1 x1002_1 from by exact q45_) (by (with_reducible repeat (first | apply Kd.R_alloc | apply Kd.R_drewN | apply Kd.R_drew));exact (Kd.R_mono (Kd.R_far (p:=⟨gb102,2,none⟩) (Kd.R_far (p:=⟨gb102,1,none⟩) (Kd.R_far (p:=⟨gb102,0,none⟩) (Kd.R_mono HO_5.out (fun k_ hk=>(⟨hk,hk.2⟩ : _ ∧ k_ ≠ gb102))) (fun _ hk=>hk.2) (.int .i64 ((rd_T58 l1 x12_1).f0))) (fun _ hk=>hk.2) (.int .i64 ((rd_T58 l1 x12_1).f1))) (fun _ hk=>hk.2) (.string ((rd_T58 l1 x12_1).f2))) (fun _ h_=>h_.1))) (by decide)) hk (fun _ h=>h.2)) (fun _ h=>h.1));replace BK102:=Aside0.mk (KeepBut.blk hk (g' := gb102) (o:=.cells #[.int .i64 ((rd_T58 l1 x12_1).f0),.int .i64 ((rd_T58 l1 x12_1).f1),.string ((rd_T58 l1 x12_1).f2)] 58 (0,0)) (by (with_reducible repeat (first | refine blk_drewN ?_ _ | refine blk_drew ?_ | refine blk_alloc ?_ _));refine blk_put (cs:=#[.int .i64 ((rd_T58 l1 x12_1).f0),.int .i64 ((rd_T58 l1 x12_1).f1),.string (⟨#[]⟩ : ByteArray)]) ?_ 2 _ rfl;(with_reducible repeat (first | refine blk_drewN ?_ _ | refine blk_drew ?_ | refine blk_alloc ?_ _));refine blk_put (cs:=#[.int .i64 ((rd_T58 l1 x12_1).f0),.int .i64 0,.string (⟨#[]⟩ : ByteArray)]) ?_ 1 _ rfl;(with_reducible repeat (first | refine blk_drewN ?_ _ | refine blk_drew ?_ | refine blk_alloc ?_ _));refine blk_put (cs:=#[.int .i64 0,.int .i64 0,.string (⟨#[]⟩ : ByteArray)]) ?_ 0 _ rfl;(with_reducible repeat (first | refine blk_drewN ?_ _ | refine blk_drew ?_ | refine blk_alloc ?_ _));exact BK102.out) NB102_0.out (by simp));replace HK:=Aside0.mk (KeepBut.trans (q35_) hk (.inl rfl));replace HB:=Aside0.mk (hb);replace HI0:=Aside0.mk (hi);(try clear hb);(try clear hk);(try clear hi)))
      (try simp only [Act.put,List.setIfInBounds_toArray,List.set_cons_zero,List.set_cons_succ])
      go_cut [] (fun wc=>∃ (kq : Nat) (x1001_6 : Int) (x1002_6 : Int) (x103001_6 : Int) (x103002_6 : ByteArray),Aside0 (yAC.j1 kq x5_1 l1 (l1.length : Int) x12_1 s0_0 x1001_6 x1002_6 ((rd_T58 l1 x12_1).f0) x103001_6 x103002_6 = some (r1,r2,r3)) ∧ Aside0 (kq ≤ k1) ∧ Aside0 (Kd.R k58 58 wc w.heap.size (fun k_=>k_ ≠ gb102) u5 x5_1) ∧ Aside0 (wc.heap[gb102]? = some (.cells #[.int .i64 ((rd_T58 l1 x12_1).f0),.int .i64 x103001_6,.string x103002_6] 58 (0,0))) ∧ Aside0 (IsS145 w0 wc g s0_0 x1001_6 x1002_6) ∧ Aside0 (KeepBut w wc g none) ∧ Aside0 (Below w0.heap.size w0 wc))
      case first =>
       have H:=HC7.out;clear HC7;by_cases c12 : t103 = 0
       ·rw [if_pos c12] at H;have c12b0 : (t103 == 0) = true:=beq_iff_eq.mpr c12;have c12b1 : (t103 != 0) = false:=bne_eq_false_iff_eq.mpr c12;clear c12
        (first | rw [c12b0] | (simp only [i64_w,i32_w];rw [c12b0]) | skip)
        have H' := Aside0.mk H;clear H;go_wp2;go_roundg k1
        case measure=>have:=HK1.out;omega
        case rel=>exact ⟨(x5_1),(wrap64 (x12_1 + 1)),(t104),(t105),(q1_),H', ⟨by have:=HK1.out;omega⟩,⟨by (with_reducible repeat (first | apply Kd.R_alloc | apply Kd.R_drewN | apply Kd.R_drew));exact Kd.R_mono HO_5.out (fun _ hk=>trivial)⟩,⟨q45_⟩,⟨q35_⟩,⟨q41_⟩⟩
       ·rw [if_neg c12] at H;have c12b0 : (t103 == 0) = false:=beq_eq_false_iff_ne.mpr c12;have c12b1 : (t103 != 0) = true:=bne_iff_ne.mpr c12
        (first | rw [c12b0] | (simp only [i64_w,i32_w];rw [c12b0]) | skip)
        by_cases c13 : t103 = 1
        ·rw [if_pos c13] at H;have c13b0 : (t103 == 1) = true:=beq_iff_eq.mpr c13;have c13b1 : (t103 != 1) = false:=bne_eq_false_iff_eq.mpr c13;clear c13;obtain ⟨y106,hy106⟩ : ∃ y_ : List ByteArray,y_ = (([(⟨#[71,79]⟩ : ByteArray),(⟨#[73]⟩ : ByteArray),(⟨#[66,79,79,75]⟩ : ByteArray)] : List ByteArray)):=⟨_,rfl⟩;replace H : ((yAl.f s0_0 t104 t105 y106).bind fun bt109=>(yAC.j1 k1 x5_1 l1 (l1.length : Int) x12_1 s0_0 bt109.2.1 bt109.2.2 ((rd_T58 l1 x12_1).f0) ((rd_T58 l1 x12_1).f1) bt109.1)) = some (r1,r2,r3):=by first | (rw [hy106];with_reducible exact H) | (have H2_:=(Option.bind_some _ _).symm.trans H;rw [hy106];with_reducible exact H2_) | (have H2_:=(Option.bind_some _ _).symm.trans H;with_reducible exact H2_) | with_reducible exact H | (rw [hy106];exact H) | exact H
         have Ny106:=Aside0.mk hy106;clear hy106;replace H:=Option.bind_eq_some_iff.mp H;obtain ⟨⟨t109,t110,t111⟩,A140,H⟩:=H;(try dsimp only at H);have A14:=Aside0.mk A140;clear A140;have H' := Aside0.mk H;clear H;go_wp2_with (first | ((with_reducible refine gate_dst (N:=23) rfl ?_);refine Kd.R_lit Kd.string _ 9 ?hg (N:=23) ?hd (xs:=([(⟨#[71,79]⟩ : ByteArray),(⟨#[73]⟩ : ByteArray),(⟨#[66,79,79,75]⟩ : ByteArray)] : List ByteArray)) (inner:=[.string (⟨#[71,79]⟩ : ByteArray),.string (⟨#[73]⟩ : ByteArray),.string (⟨#[66,79,79,75]⟩ : ByteArray)]) (ok:=fun _=>True) (okp:=fun _=>True) ?hr ?hp (fun _ hk=>hk) trivial (Below.refl _ _) (Nat.le_refl _) (by simp) ?_;(case hd=>rfl);(case hg=>rfl);(case hr=>first | (go_simp;done) | (go_simp;rfl));(case hp=>exact (Reps.one (show Kd.M Kd.string _ _ _ (⟨#[71,79]⟩ : ByteArray) [.string (⟨#[71,79]⟩ : ByteArray)] from rfl) (Reps.one (show Kd.M Kd.string _ _ _ (⟨#[73]⟩ : ByteArray) [.string (⟨#[73]⟩ : ByteArray)] from rfl) (Reps.one (show Kd.M Kd.string _ _ _ (⟨#[66,79,79,75]⟩ : ByteArray) [.string (⟨#[66,79,79,75]⟩ : ByteArray)] from rfl) (Reps.none _ _)))));intro v107 w15 ho16 hb hg_ hnew_;clear hg_ hnew_;(first | rw [← Ny106.out] at ho16 | (simp only [Int.reduceToNat] at ho16;rw [← Ny106.out] at ho16));replace HO_5:=rB_ HO_5 hb;have HO108:=Aside0.mk (Kd.R_lower ho16 (keep_size (w:=w) (g:=g) (row:=none) (q35_)));replace BK102:=bkB_ BK102 hb;replace HK:=Aside0.mk (KeepBut.trans (q35_) (KeepBut.of_below hb g none) (.inl rfl));replace HB:=Aside0.mk (below_step (q41_) hb);replace HI0:=Aside0.mk (IsS145.below (q45_) hb);clear hb ho16;obtain ⟨Ao17,co17,eo17⟩:=Kd.R_slice HO108.out;subst eo17) | ((with_reducible refine gate_callee (f:=233) rfl ?_);refine goesL_ (some 24) rfl rfl Try.func233 (by kernel_rfl) rfl #[.pointer (some ⟨g,0,none⟩),.slice Ao17 y106.length co17] rfl (q23_) ?_;(with_reducible refine (yAl.calls g s0_0 t104 t105 _ _ y106 t109 t110 t111 w0 _ ?side1 ?side2 ?side3 ?side4 ?side5 A14.out).mono ?_);(case side1=>exact (q45_));(case side2=>exact (q41_));(case side3=>exact cX_ (Kd.R_reads' HO108.out).2.2);(case side4=>exact (Kd.R_reads' HO108.out).2.1);(case side5=>exact far_slice (IsS145.own_ne HI0.out HO108.out (by decide)));rintro e w18 ⟨rfl,hi,hb,hk⟩;refine ⟨_,rfl,?_⟩;replace HO_5:=Aside0.mk (Kd.R_mono (Kd.R_keep (IsS145.apart (show IsS145 w0 _ g s0_0 t104 t105 from by exact q45_) (q6_) (by decide)) hk (fun _ h=>h.2)) (fun _ h=>h.1));replace BK102:=Aside0.mk (KeepBut.blk hk (g' := gb102) (o:=.cells #[.int .i64 ((rd_T58 l1 x12_1).f0),.int .i64 ((rd_T58 l1 x12_1).f1),.string ((rd_T58 l1 x12_1).f2)] 58 (0,0)) (q19_) NB102_0.out (by simp));replace HO108:=Aside0.mk (Kd.R_mono (Kd.R_keep (IsS145.apart (show IsS145 w0 _ g s0_0 t104 t105 from by exact q45_) (by (with_reducible repeat (first | apply Kd.R_alloc | apply Kd.R_drewN | apply Kd.R_drew));exact HO108.out) (by decide)) hk (fun _ h=>h.2)) (fun _ h=>h.1));replace HK:=Aside0.mk (KeepBut.trans (q35_) hk (.inl rfl));replace HB:=Aside0.mk (hb);replace HI0:=Aside0.mk (hi);(try clear hb);(try clear hk);(try clear hi);have hnb19:=NB102_0.out;have hnc19:=NB0_102.out;obtain ⟨hcz20_0,hcz20_1,hcz20_2,hfz20_0,hfz20_1,hfz20_2⟩:=bx3_ BK102.out))
         go_meet
         case rel=>exact ⟨_,(t110),(t111),((rd_T58 l1 x12_1).f1),(t109),H', ⟨by have:=HK1.out;first | omega | exact Nat.le_refl _⟩,⟨by (with_reducible repeat (first | apply Kd.R_alloc | apply Kd.R_drewN | apply Kd.R_drew));exact Kd.R_mono (Kd.R_far (p:=⟨gb102,2,none⟩) (Kd.R_mono HO_5.out (fun k_ hk=>(⟨hk,hk.2⟩ : _ ∧ k_ ≠ gb102))) (fun _ hk=>hk.2) (.string t109)) (fun _ hk=>hk.1.2)⟩,⟨by (with_reducible repeat (first | refine blk_drewN ?_ _ | refine blk_drew ?_ | refine blk_alloc ?_ _));refine blk_put (cs:=#[.int .i64 ((rd_T58 l1 x12_1).f0),.int .i64 ((rd_T58 l1 x12_1).f1),.string ((rd_T58 l1 x12_1).f2)]) ?_ 2 _ rfl;(with_reducible repeat (first | refine blk_drewN ?_ _ | refine blk_drew ?_ | refine blk_alloc ?_ _));exact BK102.out⟩,⟨q45_⟩,⟨q35_⟩,⟨q41_⟩⟩
        ·rw [if_neg c13] at H;have c13b0 : (t103 == 1) = false:=beq_eq_false_iff_ne.mpr c13;have c13b1 : (t103 != 1) = true:=bne_iff_ne.mpr c13;by_cases c21 : t103 = 2
         ·rw [if_pos c21] at H;have c21b0 : (t103 == 2) = true:=beq_iff_eq.mpr c21;have c21b1 : (t103 != 2) = false:=bne_eq_false_iff_eq.mpr c21;clear c21;replace H:=Option.bind_eq_some_iff.mp H;obtain ⟨⟨t112,t113,t114⟩,A220,H⟩:=H;(try dsimp only at H);have A22:=Aside0.mk A220;clear A220;replace H:=Option.bind_eq_some_iff.mp H;obtain ⟨t115,A230,H⟩:=H;(try dsimp only at H);have A23:=Aside0.mk A230;clear A230;have H' := Aside0.mk H;clear H;try go_wp2
          replace HO_5:=Aside0.mk (Kd.R_drew HO_5.out);replace BK102:=Aside0.mk (blk_drew BK102.out);replace HI0:=Aside0.mk (IsS145.drew HI0.out);replace HK:=Aside0.mk (keep_drew HK.out);replace HB:=Aside0.mk (below_drew1 HB.out);refine start_ (n:=11) (S:=fun w' => w'.cell? ⟨gb102,0,none⟩ = some (.int .i64 ((rd_T58 l1 x12_1).f0)) ∧ w'.cell? ⟨gb102,1,none⟩ = some (.int .i64 ((rd_T58 l1 x12_1).f1)) ∧ w'.cell? ⟨gb102,2,none⟩ = some (.string ((rd_T58 l1 x12_1).f2))) (ds:=[10]) f70_ (by kernel_rfl) rfl rfl ⟨(blk_cell BK102.out 0).trans rfl,(blk_cell BK102.out 1).trans rfl,(blk_cell BK102.out 2).trans rfl⟩ (fun hHeld=>?_);refine with_tabW yAC.tab10 yAC.bits10 (fun HT_ HW_=>?_);generalize w11.drew = w24 at HO_5 BK102 HI0 HK HB hHeld ⊢;refine pure_ (i:=0) (N:=some 28) (v:=?_) (a' := ?_) f71_ rfl rfl (any_of HT_.out (by kernel_rfl)) (fun _ _ _ h=>h) (Or.inl ⟨by rfl,?_⟩) ?_ ?_;rotate_left
          ·intro w';go_simp;with_reducible rfl
          rotate_left
          ·exact q71_
          refine pa_ 3 31 f130_ ?_
          refine pa_ 5 33 f131_ ?_
          refine take_ (i:=1) (N:=some 29) (v:=?_) (a' := ?_) f132_ rfl rfl (take_ofW HT_.out HW_.out (by kernel_rfl)) (fun _ _ _ h=>h) (Or.inl ⟨by rfl,?_⟩) hHeld ?_ ?_;rotate_left
          ·rintro w' ⟨s0,s1,s2⟩;go_simp;with_reducible rfl
          rotate_left
          ·exact q71_
          refine pa_ 2 30 f75_ ?_
          refine take_ (i:=4) (N:=some 32) (v:=?_) (a' := ?_) f133_ rfl rfl (take_ofW HT_.out HW_.out (by kernel_rfl)) (fun _ _ _ h=>h) (Or.inl ⟨by rfl,?_⟩) hHeld ?_ ?_;rotate_left
          ·rintro w' ⟨s0,s1,s2⟩;go_simp;with_reducible rfl
          rotate_left
          ·exact q71_
          refine one_ (i:=6) (N:=some 34) f134_ rfl rfl (one_of HT_.out (by kernel_rfl)) (by decide) (fun K hK=>?_);refine goes_ Try.func141 (by kernel_rfl) rfl #[.pointer (some ⟨g,0,none⟩),.int .i64 3] (by rfl) rfl rfl (q23_) ?_
          with_reducible refine (yAN.calls g s0_0 t104 t105 3 t112 t113 t114 w0 _ ?side1 ?side2 A22.out).mono ?_
          (case side1=>exact (q45_))
          (case side2=>exact (q41_))
          rintro e w25 ⟨rfl,hi,hb,hk⟩;refine ⟨_,rfl,?_⟩;replace HO_5:=Aside0.mk (Kd.R_mono (Kd.R_keep (IsS145.apart (show IsS145 w0 _ g s0_0 t104 t105 from by exact q45_) (q6_) (by decide)) hk (fun _ h=>h.2)) (fun _ h=>h.1));replace BK102:=Aside0.mk (KeepBut.blk hk (g' := gb102) (o:=.cells #[.int .i64 ((rd_T58 l1 x12_1).f0),.int .i64 ((rd_T58 l1 x12_1).f1),.string ((rd_T58 l1 x12_1).f2)] 58 (0,0)) (q19_) NB102_0.out (by simp));replace HK:=Aside0.mk (KeepBut.trans (q35_) hk (.inl rfl));replace HB:=Aside0.mk (hb);replace HI0:=Aside0.mk (hi)
          (try clear hb)
          (try clear hk)
          (try clear hi)
          refine hK.out _ _ ⟨(blk_cell BK102.out 0).trans rfl,(blk_cell BK102.out 1).trans rfl,(blk_cell BK102.out 2).trans rfl⟩ (fun hHeld=>?_);clear hK K;refine norm_ (a' := ?_) ?_ ?_;rotate_left
          ·show Act.put _ (some 34) _ = _;simp only [Act.put,List.setIfInBounds_toArray,List.set_cons_zero,List.set_cons_succ,i64_w,i32_w];rfl
          refine pa_ 7 35 f78_ ?_
          refine one_ (i:=8) (N:=some 36) f79_ rfl rfl (one_of HT_.out (by kernel_rfl)) (by decide) (fun K hK=>?_);refine goes_ Try.func226 (by kernel_rfl) rfl #[.int .i64 (wrap64 (((rd_T58 l1 x12_1).f0) + 1)),.int .i64 (wrap64 (((rd_T58 l1 x12_1).f1) - t112))] (by rfl) rfl rfl (q23_) ?_
          with_reducible refine (yAc.calls (wrap64 (((rd_T58 l1 x12_1).f0) + 1)) (wrap64 (((rd_T58 l1 x12_1).f1) - t112)) t115 _ A23.out).mono ?_
          rintro e w' ⟨rfl,⟨nd,rfl⟩⟩;refine ⟨_,rfl,?_⟩;refine hK.out _ _ ⟨(blk_cell BK102.out 0).trans rfl,(blk_cell BK102.out 1).trans rfl,(blk_cell BK102.out 2).trans rfl⟩ (fun hHeld=>?_);clear hK K;refine norm_ (a' := ?_) ?_ ?_;rotate_left
          ·show Act.put _ (some 36) _ = _;simp only [Act.put,List.setIfInBounds_toArray,List.set_cons_zero,List.set_cons_succ,i64_w,i32_w];rfl
          refine pa_ 9 37 f80_ ?_
          refine last_ (i:=10) (N:=none) f81_ rfl rfl (one_of HT_.out (by kernel_rfl)) (by decide) (fun K hK=>?_);have hs26 : w25.cell? ⟨gb102,1,none⟩ = some (.int .i64 ((rd_T58 l1 x12_1).f1)):=(blk_cell BK102.out 1).trans rfl;have hfs26:=blk_frozen BK102.out 1;refine skip_ (w1:=?_) (by rfl) rfl ?_ ?_;rotate_left
          ·go_simp;rfl
          refine hK.out _ _ ?_;clear hK K;refine done_ (done_of HT_.out (by kernel_rfl)) ?_;try go_wp2
          go_meet
          case rel=>exact ⟨_,(t113),(t114),(t115),((rd_T58 l1 x12_1).f2),H', ⟨by have:=HK1.out;first | omega | exact Nat.le_refl _⟩,⟨by (with_reducible repeat (first | apply Kd.R_alloc | apply Kd.R_drewN | apply Kd.R_drew));exact Kd.R_mono (Kd.R_far (p:=⟨gb102,1,none⟩) (Kd.R_mono HO_5.out (fun k_ hk=>(⟨hk,hk.2⟩ : _ ∧ k_ ≠ gb102))) (fun _ hk=>hk.2) (.int .i64 t115)) (fun _ hk=>hk.1.2)⟩,⟨by (with_reducible repeat (first | refine blk_drewN ?_ _ | refine blk_drew ?_ | refine blk_alloc ?_ _));refine blk_put (cs:=#[.int .i64 ((rd_T58 l1 x12_1).f0),.int .i64 ((rd_T58 l1 x12_1).f1),.string ((rd_T58 l1 x12_1).f2)]) ?_ 1 _ rfl;(with_reducible repeat (first | refine blk_drewN ?_ _ | refine blk_drew ?_ | refine blk_alloc ?_ _));exact BK102.out⟩,⟨q45_⟩,⟨q35_⟩,⟨q41_⟩⟩
         ·rw [if_neg c21] at H;have c21b0 : (t103 == 2) = false:=beq_eq_false_iff_ne.mpr c21;have c21b1 : (t103 != 2) = true:=bne_iff_ne.mpr c21;have H' := Aside0.mk H;clear H;go_wp2;go_meet
          case rel=>exact ⟨_,(t104),(t105),((rd_T58 l1 x12_1).f1),((rd_T58 l1 x12_1).f2),H', ⟨by have:=HK1.out;first | omega | exact Nat.le_refl _⟩,⟨by (with_reducible repeat (first | apply Kd.R_alloc | apply Kd.R_drewN | apply Kd.R_drew));exact Kd.R_mono HO_5.out (fun _ hk=>hk.2)⟩,⟨q19_⟩,⟨q45_⟩,⟨q35_⟩,⟨q41_⟩⟩
      case rest =>
       clear HC7;try clear c1
       try clear c3
       try clear c3b0
       try clear c4
       try clear c4b0
       try clear c5
       try clear c5b0
       try clear hcz10_0
       try clear hcz10_1
       try clear hcz10_2
       try clear hfz10_0
       try clear hfz10_1
       try clear hfz10_2
       try clear hx101_0
       try clear hx101_1
       try clear hx101_2
       try clear p101
       try clear q101
       obtain ⟨kq,x1001_6,x1002_6,x103001_6,x103002_6,HA,HJ6,HO_5,BK102,HI0,HK,HB⟩:=hcut;cases kq with
       | zero=>exact absurd HA.out (by simp [yAC.j1])
       | succ kj6 =>
        have H:=HA.out;clear HA;simp only [yAC.j1] at H;have HC27:=Aside0.mk H;clear H;obtain ⟨Ao28,co28,eo28⟩:=Kd.R_slice HO_5.out;subst eo28;go_upto_region 12 with (fail)
        go_cut [52] (fun v52 wc=>∃ (kq : Nat) (x52_26 : Bool),v52 = .bool x52_26 ∧ Aside0 (yAC.j2 kq x5_1 l1 (l1.length : Int) x12_1 x52_26 s0_0 x1001_6 x1002_6 ((rd_T58 l1 x12_1).f0) x103001_6 x103002_6 = some (r1,r2,r3)) ∧ Aside0 (kq ≤ kj6) ∧ Aside0 (Kd.R k58 58 wc w.heap.size (fun k_=>k_ ≠ gb102) (.slice Ao28 x5_1.length co28) x5_1) ∧ Aside0 (wc.heap[gb102]? = some (.cells #[.int .i64 ((rd_T58 l1 x12_1).f0),.int .i64 x103001_6,.string x103002_6] 58 (0,0))) ∧ Aside0 (IsS145 w0 wc g s0_0 x1001_6 x1002_6) ∧ Aside0 (KeepBut w wc g none) ∧ Aside0 (Below w0.heap.size w0 wc))
        case first =>
         have H:=HC27.out;clear HC27;by_cases c29 : (x5_1.length : Int) = 0
         ·rw [if_pos c29] at H;have c29b0 : ((x5_1.length : Int) == 0) = true:=beq_iff_eq.mpr c29;have c29b1 : ((x5_1.length : Int) != 0) = false:=bne_eq_false_iff_eq.mpr c29;clear c29
          (first | rw [c29b0] | (simp only [i64_w,i32_w];rw [c29b0]) | skip)
          have H' := Aside0.mk H;clear H;try go_wp2
          replace HO_5:=Aside0.mk (Kd.R_drew HO_5.out);replace BK102:=Aside0.mk (blk_drew BK102.out);replace HI0:=Aside0.mk (IsS145.drew HI0.out);replace HK:=Aside0.mk (keep_drew HK.out);replace HB:=Aside0.mk (below_drew1 HB.out);refine start_ (n:=13) (S:=fun w' => True) (ds:=[]) f114_ (by kernel_rfl) rfl rfl trivial (fun hHeld=>?_);refine with_tabW yAC.tab12 yAC.bits12 (fun HT_ HW_=>?_);generalize wc.drew = w30 at HO_5 BK102 HI0 HK HB hHeld ⊢;refine pure_ (i:=0) (N:=some 40) (v:=?_) (a' := ?_) f135_ rfl rfl (any_of HT_.out (by kernel_rfl)) (fun _ _ _ h=>h) (Or.inl ⟨by rfl,?_⟩) ?_ ?_;rotate_left
          ·intro w';go_simp;with_reducible rfl
          rotate_left
          ·exact q71_
          refine pa_ 1 41 f136_ ?_
          refine pa_ 2 42 f137_ ?_
          refine pu_ 3 43 f138_ ?_
          refine pu_ 4 44 f139_ ?_
          refine pu_ 5 45 f140_ ?_
          refine pu_ 6 46 f141_ ?_
          refine pu_ 7 47 f142_ ?_
          refine pu_ 8 48 f143_ ?_
          refine pu_ 9 49 f144_ ?_
          refine pu_ 10 50 f127_ ?_
          refine pu_ 11 51 f128_ ?_
          refine pa_ 12 52 f129_ ?_
          refine done_ (done_of HT_.out (by kernel_rfl)) ?_;try go_wp2
          go_meet
          case rel=>exact ⟨_,(true),(q1_),H', ⟨by have:=HK1.out;have:=HJ6.out;first | omega | exact Nat.le_refl _⟩,⟨q6_⟩,⟨q19_⟩,⟨q45_⟩,⟨q35_⟩,⟨q41_⟩⟩
         ·rw [if_neg c29] at H;have c29b0 : ((x5_1.length : Int) == 0) = false:=beq_eq_false_iff_ne.mpr c29;have c29b1 : ((x5_1.length : Int) != 0) = true:=bne_iff_ne.mpr c29;have c29b2 : ¬ (x5_1 = []):=fun h_=>c29 (by rw [h_];rfl)
          (first | rw [c29b0] | (simp only [i64_w,i32_w];rw [c29b0]) | skip)
          obtain ⟨ji31,hji31⟩ : ∃ j_ : Int,(wrap64 ((x5_1.length : Int) - 1)) = j_:=⟨_,rfl⟩;replace H : (if 0 ≤ (ji31) then (if (ji31) < (x5_1.length : Int) then (yAC.j2 kj6 x5_1 l1 (l1.length : Int) x12_1 (decide (((rd_T58 x5_1 (ji31)).f1) ≤ ((rd_T58 l1 x12_1).f0))) s0_0 x1001_6 x1002_6 ((rd_T58 l1 x12_1).f0) x103001_6 x103002_6) else (none)) else (none)) = some (r1,r2,r3):=by first | (rw [hji31] at H;exact H) | (simp only [hji31] at H ⊢;exact H)
          have hji31w : (IntKind.i64.wrap ((x5_1.length : Int) - 1)) = ji31:=(i64_w _).trans hji31;by_cases c32 : 0 ≤ (ji31)
          ·rw [if_pos c32] at H;have c32b0:=decide_eq_true c32;clear c32;by_cases c33 : (ji31) < (x5_1.length : Int)
           ·rw [if_pos c33] at H;have c33b0:=decide_eq_true c33;clear c33;have H' := Aside0.mk H;clear H;try go_wp2
            replace HO_5:=Aside0.mk (Kd.R_drew HO_5.out);replace BK102:=Aside0.mk (blk_drew BK102.out);replace HI0:=Aside0.mk (IsS145.drew HI0.out);replace HK:=Aside0.mk (keep_drew HK.out);replace HB:=Aside0.mk (below_drew1 HB.out);have p116 : 0 ≤ ((ji31) : Int):=of_decide_eq_true (q2_);have q116 : (ji31) < (x5_1.length : Int):=of_decide_eq_true (q2_);obtain ⟨ad116,e116,hx116_0,hx116_1,hx116_2⟩:=at_T58 (Kd.R_reads' HO_5.out).2.2 (ji31) p116 q116;cases e116;replace p116:=eq_true p116;replace q116:=eq_true q116;refine start_ (n:=13) (S:=fun w' => w'.cell? ⟨gb102,0,none⟩ = some (.int .i64 ((rd_T58 l1 x12_1).f0)) ∧ w'.cell? ⟨gb102,1,none⟩ = some (.int .i64 x103001_6) ∧ w'.cell? ⟨gb102,2,none⟩ = some (.string x103002_6) ∧ w'.cell? (ad116.add (((ji31)).toNat * 3)) = some (.int .i64 ((rd_T58 x5_1 (ji31)).f0)) ∧ w'.cell? ⟨(ad116.add (((ji31)).toNat * 3)).block,(ad116.add (((ji31)).toNat * 3)).off + 1,none⟩ = some (.int .i64 ((rd_T58 x5_1 (ji31)).f1)) ∧ w'.cell? ⟨(ad116.add (((ji31)).toNat * 3)).block,(ad116.add (((ji31)).toNat * 3)).off + 2,none⟩ = some (.string ((rd_T58 x5_1 (ji31)).f2))) (ds:=[]) f114_ (by kernel_rfl) rfl rfl ⟨(blk_cell BK102.out 0).trans rfl,(blk_cell BK102.out 1).trans rfl,(blk_cell BK102.out 2).trans rfl,hx116_0,hx116_1,hx116_2⟩ (fun hHeld=>?_);refine with_tabW yAC.tab12 yAC.bits12 (fun HT_ HW_=>?_);generalize wc.drew = w34 at HO_5 BK102 HI0 HK HB hx116_0 hx116_1 hx116_2 hHeld ⊢;refine pure_ (i:=0) (N:=some 40) (v:=?_) (a' := ?_) f135_ rfl rfl (any_of HT_.out (by kernel_rfl)) (fun _ _ _ h=>h) (Or.inl ⟨by rfl,?_⟩) ?_ ?_;rotate_left
            ·intro w';go_simp;with_reducible rfl
            rotate_left
            ·exact q71_
            refine pa_ 1 41 f136_ ?_
            refine pa_ 2 42 f137_ ?_
            refine pa_ 3 43 f138_ ?_
            refine pa_ 4 44 f139_ ?_
            refine pa_ 5 45 f140_ ?_
            refine pa_ 6 46 f141_ ?_
            refine pa_ 7 47 f142_ ?_
            refine pa_ 9 49 f145_ ?_
            refine take_ (i:=8) (N:=some 48) (v:=?_) (a' := ?_) f144_ rfl rfl (take_ofW HT_.out HW_.out (by kernel_rfl)) (fun _ _ _ h=>h) (Or.inl ⟨by rfl,?_⟩) hHeld ?_ ?_;rotate_left
            ·rintro w' ⟨s0,s1,s2,s3,s4,s5⟩;go_simp;with_reducible rfl
            rotate_left
            ·exact q71_
            refine take_ (i:=10) (N:=some 50) (v:=?_) (a' := ?_) f127_ rfl rfl (take_ofW HT_.out HW_.out (by kernel_rfl)) (fun _ _ _ h=>h) (Or.inl ⟨by rfl,?_⟩) hHeld ?_ ?_;rotate_left
            ·rintro w' ⟨s0,s1,s2,s3,s4,s5⟩;go_simp;with_reducible rfl
            rotate_left
            ·exact q71_
            refine pa_ 11 51 f128_ ?_
            refine pa_ 12 52 f129_ ?_
            refine done_ (done_of HT_.out (by kernel_rfl)) ?_;try go_wp2
            go_meet
            case rel=>exact ⟨_,(decide (((rd_T58 x5_1 (ji31)).f1) ≤ ((rd_T58 l1 x12_1).f0))),(by first | rfl | (simp;done) | (simp only [← hji31] <;> (first | rfl | simp)) | (simp [*];done)),H', ⟨by have:=HK1.out;have:=HJ6.out;first | omega | exact Nat.le_refl _⟩,⟨q6_⟩,⟨q19_⟩,⟨q45_⟩,⟨q35_⟩,⟨q41_⟩⟩
           ·rw [if_neg c33] at H;exact absurd H (by simp)
          ·rw [if_neg c32] at H;exact absurd H (by simp)
        case rest =>
         clear HC27;try clear c1
         try clear c3
         try clear c3b0
         try clear c4
         try clear c4b0
         try clear c5
         try clear c5b0
         try clear hcz10_0
         try clear hcz10_1
         try clear hcz10_2
         try clear hfz10_0
         try clear hfz10_1
         try clear hfz10_2
         try clear hx101_0
         try clear hx101_1
         try clear hx101_2
         try clear p101
         try clear q101
         obtain ⟨kq,x52_26,rfl,HA,HJ26,HO_5,BK102,HI0,HK,HB⟩:=hcut;cases kq with
         | zero=>exact absurd HA.out (by simp [yAC.j2])
         | succ kj26 =>
          have H:=HA.out;clear HA;simp only [yAC.j2] at H;by_cases c35 : x52_26 = true
          ·subst c35;rw [if_pos rfl] at H;by_cases c36 : x5_1.length < 4398046511104
           ·rw [if_pos c36] at H;have LMc36:=Aside0.mk c36;clear c36;obtain ⟨y117,hy117⟩ : ∃ y_ : List (S58),y_ = (x5_1 ++ [(⟨((rd_T58 l1 x12_1).f0),x103001_6,x103002_6⟩ : S58)]):=⟨_,rfl⟩;replace H : (yAC.l0 kj26 y117 l1 (l1.length : Int) (wrap64 (x12_1 + 1)) s0_0 x1001_6 x1002_6) = some (r1,r2,r3):=by first | (rw [hy117];with_reducible exact H) | (have H2_:=(Option.bind_some _ _).symm.trans H;rw [hy117];with_reducible exact H2_) | (have H2_:=(Option.bind_some _ _).symm.trans H;with_reducible exact H2_) | with_reducible exact H | (rw [hy117];exact H) | exact H
            have Ny117:=Aside0.mk hy117;clear hy117;have H' := Aside0.mk H;clear H;have hnb37:=NB102_0.out;have hnc37:=NB0_102.out;obtain ⟨hcz38_0,hcz38_1,hcz38_2,hfz38_0,hfz38_1,hfz38_2⟩:=bx3_ BK102.out;go_wp2_with (first | ((with_reducible refine gate_builtin (b:=.append) (xs:=#[.tmp 53,.tmp 55]) rfl ?_);at_builtin;refine Kd.R_append k58 w.heap.size rfl (.tmp 53) (.tmp 55) 30 58 (.agg #[(.int .i64 0),(.int .i64 0),(.string ⟨#[]⟩)]) 32 rfl Try.underlying30 info58 rfl (by decide) (by omega) (.slice Ao28 x5_1.length co28) x5_1 (⟨((rd_T58 l1 x12_1).f0),x103001_6,x103002_6⟩ : S58) [.int .i64 ((rd_T58 l1 x12_1).f0),.int .i64 x103001_6,.string x103002_6] (fun k_=>k_ ≠ gb102) (fun _=>False) rfl rfl ?aP (fun _ hk=>hk.elim) ?aF ?aO (Below.refl _ _) ?aS ?aL ?_;(case aP=>exact k58_mkM _ _ _ (⟨((rd_T58 l1 x12_1).f0),x103001_6,x103002_6⟩ : S58));(case aF=>exact (fun k_ hk=>Kd.freshB (g:=gb102) (o:=.cells #[.int .i64 ((rd_T58 l1 x12_1).f0),.int .i64 x103001_6,.string x103002_6] 58 (0,0)) (q19_) k_ hk));(case aO=>exact (q6_));(case aS=>exact (keep_size (w:=w) (g:=g) (row:=none) (q35_)));(case aL=>have:=LMc36.out;omega);intro v118 w39 ho hb hg hat;rw [← Ny117.out] at ho;replace BK102:=Aside0.mk (blk_grown (g:=gb102) (o:=.cells #[.int .i64 ((rd_T58 l1 x12_1).f0),.int .i64 x103001_6,.string x103002_6] 58 (0,0)) (q19_) hg (Kd.R_away HO_5.out (fun _ hk=>hk)));replace HB:=Aside0.mk (below_weaken (q41_) HL.out hb);replace HI0:=Aside0.mk (IsS145.grown (w0:=w0) (f0:=s0_0) (f1:=x1001_6) (f2:=x1002_6) (q45_) hg (IsS145.own_ne HI0.out HO_5.out (by decide)));replace HK:=Aside0.mk (KeepBut.trans (q35_) (KeepBut.of_grown hg g) (Kd.R_base2 HO_5.out));have HO119:=Aside0.mk (ho);clear HO_5;clear ho hb hg hat))
            go_roundg kj26
            case measure=>have:=HK1.out;have:=HJ6.out;have:=HJ26.out;omega
            case rel=>exact ⟨(y117),(wrap64 (x12_1 + 1)),(x1001_6),(x1002_6),(q1_),H', ⟨by have:=HK1.out;have:=HJ6.out;have:=HJ26.out;omega⟩,⟨by (with_reducible repeat (first | apply Kd.R_alloc | apply Kd.R_drewN | apply Kd.R_drew));exact Kd.R_mono HO119.out (fun _ hk=>trivial)⟩,⟨q45_⟩,⟨q35_⟩,⟨q41_⟩⟩
           ·rw [if_neg c36] at H;exact absurd H (by simp)
          ·replace c35:=Bool.eq_false_iff.mpr c35;subst c35;rw [if_neg (show ¬ (false = true) by decide)] at H;have H' := Aside0.mk H;clear H;go_wp2;go_roundg kj26
           case measure=>have:=HK1.out;have:=HJ6.out;have:=HJ26.out;omega
           case rel=>exact ⟨(x5_1),(wrap64 (x12_1 + 1)),(x1001_6),(x1002_6),(q1_),H', ⟨by have:=HK1.out;have:=HJ6.out;have:=HJ26.out;omega⟩,⟨by (with_reducible repeat (first | apply Kd.R_alloc | apply Kd.R_drewN | apply Kd.R_drew));exact Kd.R_mono HO_5.out (fun _ hk=>trivial)⟩,⟨q45_⟩,⟨q35_⟩,⟨q41_⟩⟩
     ·rw [if_neg c5] at H;exact absurd H (by simp)
    ·rw [if_neg c4] at H;exact absurd H (by simp)
   ·rw [if_neg c3] at H;have c3b0:=decide_eq_false c3;clear c3;have HC40:=Aside0.mk H;clear H;obtain ⟨Ao41,co41,eo41⟩:=Kd.R_slice HO_5.out;subst eo41;go_upto_region 16 with (fail)
    go_cut [69] (fun v69 wc=>∃ (kq : Nat) (x69_39 : Bool) (x1001_39 : Int) (x1002_39 : Int),v69 = .bool x69_39 ∧ Aside0 (yAC.j3 kq x5_1 (x5_1.length : Int) x69_39 s0_0 x1001_39 x1002_39 = some (r1,r2,r3)) ∧ Aside0 (kq ≤ k1) ∧ Aside0 (Kd.R k58 58 wc w.heap.size (fun _=>True) (.slice Ao41 x5_1.length co41) x5_1) ∧ Aside0 (IsS145 w0 wc g s0_0 x1001_39 x1002_39) ∧ Aside0 (KeepBut w wc g none) ∧ Aside0 (Below w0.heap.size w0 wc))
    case first =>
     have H:=HC40.out;clear HC40;by_cases c42 : (x5_1.length : Int) > 0
     ·rw [if_pos c42] at H;have c42b0 : decide (0 < (x5_1.length : Int)) = true:=decide_eq_true c42;have c42b1 : decide (0 < x5_1.length) = true:=decide_eq_true (by omega);clear c42
      (first | rw [c42b0] | (simp only [i64_w,i32_w];rw [c42b0]) | skip)
      by_cases c43 : (x5_1.length : Int) < 40
      ·rw [if_pos c43] at H;have c43b0:=decide_eq_true c43;have c43b1 : decide (x5_1.length < 40) = true:=decide_eq_true (by omega);clear c43;replace H:=Option.bind_eq_some_iff.mp H;obtain ⟨⟨t120,t121,t122⟩,A440,H⟩:=H;(try dsimp only at H);have A44:=Aside0.mk A440;clear A440;have H' := Aside0.mk H;clear H;go_wp2_with (first | (go_at_call 140;(with_reducible refine (yAr.calls g s0_0 x1001_1 x1002_1 2 t120 t121 t122 w0 _ ?side1 ?side2 A44.out).mono ?_);(case side1=>exact (q30_));(case side2=>exact (q29_));rintro e w45 ⟨rfl,hi,hb,hk⟩;replace HO_5:=Aside0.mk (Kd.R_mono (Kd.R_keep (IsS145.apart (show IsS145 w0 _ g s0_0 x1001_1 x1002_1 from by exact q30_) (q6_) (by decide)) hk (fun _ h=>h.2)) (fun _ h=>h.1));replace HK:=Aside0.mk (KeepBut.trans (q25_) hk (.inl rfl));replace HB:=Aside0.mk (hb);replace HI0:=Aside0.mk (hi);(try clear hb);(try clear hk);(try clear hi)))
       go_meet
       case rel=>exact ⟨_,(t120),(t121),(t122),(q1_),H', ⟨by have:=HK1.out;first | omega | exact Nat.le_refl _⟩,⟨q6_⟩,⟨q30_⟩,⟨q25_⟩,⟨q29_⟩⟩
      ·rw [if_neg c43] at H;have c43b0:=decide_eq_false c43;have c43b1 : decide (x5_1.length < 40) = false:=decide_eq_false (by omega);clear c43;have H' := Aside0.mk H;clear H;go_wp2;go_meet
       case rel=>exact ⟨_,(false),(x1001_1),(x1002_1),(q1_),H', ⟨by have:=HK1.out;first | omega | exact Nat.le_refl _⟩,⟨q6_⟩,⟨q30_⟩,⟨q25_⟩,⟨q29_⟩⟩
     ·rw [if_neg c42] at H;have c42b0 : decide (0 < (x5_1.length : Int)) = false:=decide_eq_false c42;have c42b1 : decide (0 < x5_1.length) = false:=decide_eq_false (by omega);clear c42
      (first | rw [c42b0] | (simp only [i64_w,i32_w];rw [c42b0]) | skip)
      have H' := Aside0.mk H;clear H;go_wp2;go_meet
      case rel=>exact ⟨_,(false),(x1001_1),(x1002_1),(q1_),H', ⟨by have:=HK1.out;first | omega | exact Nat.le_refl _⟩,⟨q6_⟩,⟨q30_⟩,⟨q25_⟩,⟨q29_⟩⟩
    case rest =>
     clear HC40;try clear c1
     try clear c3
     try clear c3b0
     obtain ⟨kq,x69_39,x1001_39,x1002_39,rfl,HA,HJ39,HO_5,HI0,HK,HB⟩:=hcut;cases kq with
     | zero=>exact absurd HA.out (by simp [yAC.j3])
     | succ kj39 =>
      have H:=HA.out;clear HA;simp only [yAC.j3] at H;by_cases c46 : x69_39 = true
      ·subst c46;rw [if_pos rfl] at H;obtain ⟨ji47,hji47⟩ : ∃ j_ : Int,(wrap64 ((x5_1.length : Int) - 1)) = j_:=⟨_,rfl⟩;replace H : (if 0 ≤ (ji47) then (if (ji47) < (x5_1.length : Int) then ((yAN.f s0_0 x1001_39 x1002_39 4).bind fun bt124=>((yBF.f s0_0 bt124.2.1 bt124.2.2 (wrap64 (((rd_T58 x5_1 (ji47)).f1) + bt124.1))).bind fun bt127=>(if x5_1.length < 4398046511104 then (some ((x5_1 ++ [(⟨bt127.1,bt127.2.1,bt127.2.2.1⟩ : S58)]),bt127.2.2.2.1,bt127.2.2.2.2)) else (none)))) else (none)) else (none)) = some (r1,r2,r3):=by first | (rw [hji47] at H;exact H) | (simp only [hji47] at H ⊢;exact H)
       have hji47w : (IntKind.i64.wrap ((x5_1.length : Int) - 1)) = ji47:=(i64_w _).trans hji47;by_cases c48 : 0 ≤ (ji47)
       ·rw [if_pos c48] at H;have c48b0:=decide_eq_true c48;clear c48;by_cases c49 : (ji47) < (x5_1.length : Int)
        ·rw [if_pos c49] at H;have c49b0:=decide_eq_true c49;clear c49;replace H:=Option.bind_eq_some_iff.mp H;obtain ⟨⟨t124,t125,t126⟩,A500,H⟩:=H;(try dsimp only at H);have A50:=Aside0.mk A500;clear A500;replace H:=Option.bind_eq_some_iff.mp H;obtain ⟨⟨t127,t128,t129,t130,t131⟩,A510,H⟩:=H;(try dsimp only at H);have A51:=Aside0.mk A510;clear A510;by_cases c52 : x5_1.length < 4398046511104
         ·rw [if_pos c52] at H;have LMc52:=Aside0.mk c52;clear c52;obtain ⟨y132,hy132⟩ : ∃ y_ : List (S58),y_ = (x5_1 ++ [(⟨t127,t128,t129⟩ : S58)]):=⟨_,rfl⟩;replace H : (some (y132,t130,t131)) = some (r1,r2,r3):=by first | (rw [hy132];with_reducible exact H) | (have H2_:=(Option.bind_some _ _).symm.trans H;rw [hy132];with_reducible exact H2_) | (have H2_:=(Option.bind_some _ _).symm.trans H;with_reducible exact H2_) | with_reducible exact H | (rw [hy132];exact H) | exact H
          have Ny132:=Aside0.mk hy132;clear hy132;simp only [Option.some.injEq,Prod.mk.injEq] at H;obtain ⟨rfl,rfl,rfl⟩:=H;try go_wp2
          replace HO_5:=Aside0.mk (Kd.R_drew HO_5.out);replace HI0:=Aside0.mk (IsS145.drew HI0.out);replace HK:=Aside0.mk (keep_drew HK.out);replace HB:=Aside0.mk (below_drew1 HB.out);have p123 : 0 ≤ ((ji47) : Int):=of_decide_eq_true (q2_);have q123 : (ji47) < (x5_1.length : Int):=of_decide_eq_true (q2_);obtain ⟨ad123,e123,hx123_0,hx123_1,hx123_2⟩:=at_T58 (Kd.R_reads' HO_5.out).2.2 (ji47) p123 q123;cases e123;replace p123:=eq_true p123;replace q123:=eq_true q123;refine start_ (n:=15) (S:=fun w' => w'.cell? (ad123.add (((ji47)).toNat * 3)) = some (.int .i64 ((rd_T58 x5_1 (ji47)).f0)) ∧ w'.cell? ⟨(ad123.add (((ji47)).toNat * 3)).block,(ad123.add (((ji47)).toNat * 3)).off + 1,none⟩ = some (.int .i64 ((rd_T58 x5_1 (ji47)).f1)) ∧ w'.cell? ⟨(ad123.add (((ji47)).toNat * 3)).block,(ad123.add (((ji47)).toNat * 3)).off + 2,none⟩ = some (.string ((rd_T58 x5_1 (ji47)).f2))) (ds:=[12,13]) f146_ (by kernel_rfl) rfl rfl ⟨hx123_0,hx123_1,hx123_2⟩ (fun hHeld=>?_);refine with_tabW yAC.tab17 yAC.bits17 (fun HT_ HW_=>?_);generalize wc.drew = w53 at HO_5 HI0 HK HB hx123_0 hx123_1 hx123_2 hHeld ⊢;refine pure_ (i:=0) (N:=some 70) (v:=?_) (a' := ?_) f147_ rfl rfl (any_of HT_.out (by kernel_rfl)) (fun _ _ _ h=>h) (Or.inl ⟨by rfl,?_⟩) ?_ ?_;rotate_left
          ·intro w';go_simp;with_reducible rfl
          rotate_left
          ·exact q71_
          refine pa_ 1 71 f148_ ?_
          refine pa_ 2 72 f149_ ?_
          refine pa_ 3 73 f150_ ?_
          refine pa_ 4 74 f151_ ?_
          refine pa_ 5 75 f152_ ?_
          refine pa_ 6 76 f153_ ?_
          refine pa_ 8 78 f154_ ?_
          refine take_ (i:=7) (N:=some 77) (v:=?_) (a' := ?_) f155_ rfl rfl (take_ofW HT_.out HW_.out (by kernel_rfl)) (fun _ _ _ h=>h) (Or.inl ⟨by rfl,?_⟩) hHeld ?_ ?_;rotate_left
          ·rintro w' ⟨s0,s1,s2⟩;go_simp;with_reducible rfl
          rotate_left
          ·exact q71_
          refine one_ (i:=9) (N:=some 79) f156_ rfl rfl (one_of HT_.out (by kernel_rfl)) (by decide) (fun K hK=>?_);refine goes_ Try.func141 (by kernel_rfl) rfl #[.pointer (some ⟨g,0,none⟩),.int .i64 4] (by rfl) rfl rfl (q23_) ?_
          with_reducible refine (yAN.calls g s0_0 x1001_39 x1002_39 4 t124 t125 t126 w0 _ ?side1 ?side2 A50.out).mono ?_
          (case side1=>exact (q30_))
          (case side2=>exact (q29_))
          rintro e w54 ⟨rfl,hi,hb,hk⟩;have HS0_:=keep_cell hk (hHeld.1) (q67_);have HS1_:=keep_cell hk (hHeld.2.1) (q67_);have HS2_:=keep_cell hk (hHeld.2.2) (q67_);refine ⟨_,rfl,?_⟩;replace HO_5:=Aside0.mk (Kd.R_mono (Kd.R_keep (IsS145.apart (show IsS145 w0 _ g s0_0 x1001_39 x1002_39 from by exact q30_) (q6_) (by decide)) hk (fun _ h=>h.2)) (fun _ h=>h.1));replace HK:=Aside0.mk (KeepBut.trans (q25_) hk (.inl rfl));replace HB:=Aside0.mk (hb);replace HI0:=Aside0.mk (hi)
          (try clear hb)
          (try clear hk)
          (try clear hi)
          refine hK.out _ _ ⟨HS0_,HS1_,HS2_⟩ (fun hHeld=>?_);clear hK K;refine norm_ (a' := ?_) ?_ ?_;rotate_left
          ·show Act.put _ (some 79) _ = _;simp only [Act.put,List.setIfInBounds_toArray,List.set_cons_zero,List.set_cons_succ,i64_w,i32_w];rfl
          refine pa_ 10 80 f157_ ?_
          refine one_ (i:=11) (N:=some 81) f158_ rfl rfl (one_of HT_.out (by kernel_rfl)) (by decide) (fun K hK=>?_);refine goes_ Try.func224 (by kernel_rfl) rfl #[.pointer (some ⟨g,0,none⟩),.int .i64 (wrap64 (((rd_T58 x5_1 (ji47)).f1) + t124))] (by rfl) rfl rfl (by (try simp only [List.map_toArray,List.map_cons,List.map_nil]);first | done | (simp only [hji47];rfl) | rfl | (simp only [List.length_drop,List.length_take];rfl)) ?_
          with_reducible refine (yBF.calls g s0_0 t125 t126 (wrap64 (((rd_T58 x5_1 (ji47)).f1) + t124)) t127 t128 t129 t130 t131 w0 _ ?side1 ?side2 A51.out).mono ?_
          (case side1=>exact (q30_))
          (case side2=>exact (q29_))
          rintro e w55 ⟨rfl,hi,hb,hk⟩;have HS0_:=keep_cell hk (hHeld.1) (q67_);have HS1_:=keep_cell hk (hHeld.2.1) (q67_);have HS2_:=keep_cell hk (hHeld.2.2) (q67_);refine ⟨_,rfl,?_⟩;replace HO_5:=Aside0.mk (Kd.R_mono (Kd.R_keep (IsS145.apart (show IsS145 w0 _ g s0_0 t125 t126 from by exact q30_) (q6_) (by decide)) hk (fun _ h=>h.2)) (fun _ h=>h.1));replace HK:=Aside0.mk (KeepBut.trans (q25_) hk (.inl rfl));replace HB:=Aside0.mk (hb);replace HI0:=Aside0.mk (hi)
          (try clear hb)
          (try clear hk)
          (try clear hi)
          refine hK.out _ _ ⟨HS0_,HS1_,HS2_⟩ (fun hHeld=>?_);clear hK K;refine norm_ (a' := ?_) ?_ ?_;rotate_left
          ·show Act.put _ (some 81) _ = _;simp only [Act.put,List.setIfInBounds_toArray,List.set_cons_zero,List.set_cons_succ,i64_w,i32_w];rfl
          refine last_ (i:=12) (N:=some 82) f159_ rfl rfl (one_of HT_.out (by kernel_rfl)) (by decide) (fun K hK=>?_);refine value_ (w1:=?_) (v:=?_) (by rfl) rfl ?_ ?_;rotate_left 2
          ·go_simp
           constructor
           ·rfl
           ·rfl
          refine hK.out _ _ ?_;clear hK K;refine norm_ (a' := ?_) ?_ ?_;rotate_left
          ·show Act.put _ (some 82) _ = _;simp only [Act.put,List.setIfInBounds_toArray,List.set_cons_zero,List.set_cons_succ,i64_w,i32_w];rfl
          refine last_ (i:=13) (N:=some 83) f160_ rfl rfl (one_of HT_.out (by kernel_rfl)) (by decide) (fun K hK=>?_);refine Kd.R_append_step k58 w.heap.size (by rfl) (.tmp 70) (.tmp 82) 30 58 (.agg #[(.int .i64 0),(.int .i64 0),(.string ⟨#[]⟩)]) 32 rfl Try.underlying30 info58 rfl (by decide) (by omega) (.slice (some ad123) x5_1.length co41) x5_1 (⟨t127,t128,t129⟩ : S58) [.int .i64 t127,.int .i64 t128,.string t129] (fun _=>True) (fun _=>False) rfl rfl ?aP (fun _ hk=>hk.elim) ?aF ?aO (Below.refl _ _) ?aS ?aL ?_
          (case aP=>exact k58_mkM _ _ _ (⟨t127,t128,t129⟩ : S58))
          (case aF=>exact (fun _ _=>trivial))
          (case aO=>exact (q6_))
          (case aS=>exact (keep_size (w:=w) (g:=g) (row:=none) (q25_)))
          (case aL=>have:=LMc52.out;omega)
          intro v133 w56 ho hb hg hat;rw [← Ny132.out] at ho;replace HB:=Aside0.mk (below_weaken (q29_) HL.out hb);replace HI0:=Aside0.mk (IsS145.grown (w0:=w0) (f0:=s0_0) (f1:=t130) (f2:=t131) (q30_) hg (IsS145.own_ne HI0.out HO_5.out (by decide)));replace HK:=Aside0.mk (KeepBut.trans (q25_) (KeepBut.of_grown hg g) (Kd.R_base2 HO_5.out));have HO134:=Aside0.mk (ho);clear HO_5 ho hb hg hat;refine hK.out _ _ ?_;clear hK K;refine norm_ (a' := ?_) ?_ ?_;rotate_left
          ·show Act.put _ (some 83) _ = _;simp only [Act.put,List.setIfInBounds_toArray,List.set_cons_zero,List.set_cons_succ,i64_w,i32_w];rfl
          refine pa_ 14 5 f161_ ?_
          refine done_ (done_of HT_.out (by kernel_rfl)) ?_;try go_wp2
          go_ret;exact ⟨_,by first | rfl | (simp [errW_none,errW_some] <;> rfl) | (simp only [← hji47];first | rfl | (simp [errW_none,errW_some] <;> rfl)) | (simp [*,errW_none,errW_some] <;> rfl),by (with_reducible repeat (first | apply Kd.R_alloc | apply Kd.R_drewN | apply Kd.R_drew));exact HO134.out,q30_,q29_,q25_⟩
         ·rw [if_neg c52] at H;exact absurd H (by simp)
        ·rw [if_neg c49] at H;exact absurd H (by simp)
       ·rw [if_neg c48] at H;exact absurd H (by simp)
      ·replace c46:=Bool.eq_false_iff.mpr c46;subst c46;rw [if_neg (show ¬ (false = true) by decide)] at H;simp only [Option.some.injEq,Prod.mk.injEq] at H;obtain ⟨rfl,rfl,rfl⟩:=H;go_wp2;go_ret;exact ⟨_,q4_,q6_,q30_,q29_,q25_⟩
end Go.Proofs.Ytgapcmmhbegdeaa.G
