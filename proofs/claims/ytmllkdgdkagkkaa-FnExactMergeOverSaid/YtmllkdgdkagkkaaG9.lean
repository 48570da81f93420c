-- Written by this session's own program over the kit's print (wip/tools/myprint.py); Lean checks it.
import Derived.Test.YtmllkdgdkagkkaaMBase
import Derived.Test.YtmllkdgdkagkkaaG0
namespace Go.Proofs.Ytmllkdgdkagkkaa.G
open Go.RowKit Go.Proofs.YtmllkdgdkagkkaaW.PrintWords Go.Proofs.YtmllkdgdkagkkaaW.PrintLast Go.Proofs.YtmllkdgdkagkkaaW.PrintMore
attribute [local go_sem] max2_int min2_int max_two min_two max_three min_three max_four min_four str_geq str_gtr str_leq   -- for this text's walks alone
set_option linter.unusedVariables false
set_option linter.unusedSimpArgs false
/-! ### spec_tiPut: function 100 -/
def spec_tiPut.l0 : Nat → List (S63) → Int → Int → Int → ByteArray → Option ((List (S63)))
 | 0,_,_,_,_,_=>none
 | k + 1,x0,x5,x102000,x102001,x102002=>if x5 < (x0.length : Int) then (if 0 ≤ x5 then (if ((rd_T63 x0 x5).f0) < x102000 then (spec_tiPut.l0 k x0 (wrap64 (x5 + 1)) x102000 x102001 x102002) else ((some (([] : List (S63)) : List (S63))).bind fun y103=>(if x5 ≤ (x0.length : Int) then ((some (x0.take (x5 : Int).toNat : List (S63))).bind fun y106=>(if y103.length + y106.length < 4398046511104 then ((some (y103 ++ y106 : List (S63))).bind fun y110=>((some (([(⟨x102000,x102001,x102002⟩ : S63)] : List (S63)) : List (S63))).bind fun y113=>(if y110.length + y113.length < 4398046511104 then ((some (y110 ++ y113 : List (S63))).bind fun y116=>((some (x0.drop (x5 : Int).toNat : List (S63))).bind fun y119=>(if y116.length + y119.length < 4398046511104 then (some (y116 ++ y119)) else (none)))) else (none)))) else (none))) else (none)))) else (none)) else ((some (([] : List (S63)) : List (S63))).bind fun y126=>(if 0 ≤ x5 then (if x5 ≤ (x0.length : Int) then ((some (x0.take (x5 : Int).toNat : List (S63))).bind fun y129=>(if y126.length + y129.length < 4398046511104 then ((some (y126 ++ y129 : List (S63))).bind fun y133=>((some (([(⟨x102000,x102001,x102002⟩ : S63)] : List (S63)) : List (S63))).bind fun y136=>(if y133.length + y136.length < 4398046511104 then ((some (y133 ++ y136 : List (S63))).bind fun y139=>((some (x0.drop (x5 : Int).toNat : List (S63))).bind fun y142=>(if y139.length + y142.length < 4398046511104 then (some (y139 ++ y142)) else (none)))) else (none)))) else (none))) else (none)) else (none)))
def spec_tiPut.f (k : Nat) (l0 : List (S63)) (a1_0 : Int) (a1_1 : Int) (a1_2 : ByteArray) : Option ((List (S63))):=spec_tiPut.l0 k l0 0 a1_0 a1_1 a1_2
def spec_tiPut.T2 : Bool × List (List Nat × List Nat):=(true,[([],[]),([],[]),([1],[1]),([0,2],[0,2]),([3],[3]),([4],[4]),([4],[4]),([5,6,4],[4,5,6]),([7,4],[4,7]),([8,4],[4,8]),([4],[4]),([10,4],[4,10]),([9,11,4],[4,9,11]),([4,12],[4,12])])
def spec_tiPut.B2 : List Nat:=[0,0,2,7,15,31,31,127,255,511,31,1055,4095,8191]
theorem spec_tiPut.tab2 : rtab .any (opsOf Try.f100 2) = spec_tiPut.T2:=by kernel_rfl
theorem spec_tiPut.bits2 : waitsOk spec_tiPut.T2.2 spec_tiPut.B2 = true:=by kernel_rfl
def spec_tiPut.T4 : Bool × List (List Nat × List Nat):=(true,[([],[]),([],[]),([],[]),([1,2],[1,2]),([0,3],[0,3]),([],[]),([5],[5]),([4,6,4],[4,6]),([],[]),([],[]),([8,9],[8,9]),([7,10,7],[7,10]),([11,11,0,1,2,3,4,5,6,7,8,9,10,11],[11])])
def spec_tiPut.B4 : List Nat:=[0,0,0,6,15,0,32,127,0,0,768,2047,4095]
theorem spec_tiPut.tab4 : rtab .any (opsOf Try.f100 4) = spec_tiPut.T4:=by kernel_rfl
theorem spec_tiPut.bits4 : waitsOk spec_tiPut.T4.2 spec_tiPut.B4 = true:=by kernel_rfl
set_option maxHeartbeats 8000000 in
set_option maxRecDepth 100000 in
theorem spec_tiPut.calls (k : Nat) (A0 : Option Addr) (c0 : Nat) (l0 : List (S63)) (a1_0 : Int) (a1_1 : Int) (a1_2 : ByteArray) (r : List (S63)) (w : World) (hr0 : Kd.C k63 w A0 l0.length l0) (hc0 : l0.length ≤ c0) (h : spec_tiPut.f k l0 a1_0 a1_1 a1_2 = some r) :
  Calls Try.prog 100 #[.slice A0 l0.length c0,.agg #[.int .i64 a1_0,.int .i64 a1_1,.string a1_2]] w fun e w' => ∃ v0_ : Value,e = .returned (v0_) ∧ Kd.R k63 63 w' w.heap.size (fun _=>True) v0_ r ∧ Below w.heap.size w w' := by
 have hu63:=Try.underlying63;have HR0:=Aside0.mk hr0;have HC0:=Aside0.mk hc0;clear hr0 hc0;have HB:=Aside0.mk (Below.refl w.heap.size w);have H : (spec_tiPut.l0 k l0 0 a1_0 a1_1 a1_2) = some r:=h;clear h;have H' := Aside0.mk H;clear H;go_enter Try.func100,Try.ntmps100
 go_wp2_with (first | ((with_reducible refine gate_dst (N:=3) rfl ?_);refine box_event ?hg (N:=3) ?hd (cs:=#[.int .i64 a1_0,.int .i64 a1_1,.string a1_2]) (t:=63) ?hr ?_;(case hd=>rfl);(case hg=>rfl);(case hr=>first | (go_simp;done) | (go_simp;rfl));intro gb101 hg w3 hbox hb;have n0_:=Aside0.mk (below_step (q18_) hb);have n1_:=Aside0.mk (hbox);have n2_:=Aside0.mk ((q31_ : w.heap.size ≤ gb101));have n3_:=Aside0.mk ((q31_ : w.heap.size ≤ gb101));clear HB;have HB:=n0_;have BK101:=n1_;have GW101:=n2_;have GE101:=n3_;clear n0_ n1_ n2_ n3_;clear hb hbox hg))
 go_loopg [5] k (fun kq v5 w' => ∃ (x5_1 : Int),v5 = .int .i64 x5_1 ∧ Aside0 (spec_tiPut.l0 kq l0 x5_1 a1_0 a1_1 a1_2 = some r) ∧ Aside0 (kq ≤ k) ∧ Aside0 (w'.heap[gb101]? = some (.cells #[.int .i64 a1_0,.int .i64 a1_1,.string a1_2] 63 (0,0))) ∧ Aside0 (Below w.heap.size w w'))
 case atStart=>exact ⟨(0),(q2_),H', ⟨Nat.le_refl _⟩,⟨q14_⟩,⟨q22_⟩⟩
 case round =>
  clear H';obtain ⟨x5_1,rfl,HA,HK1,BK101,HB⟩:=hrel;cases gk with
  | zero=>exact absurd HA.out (by simp [spec_tiPut.l0])
  | succ k1 =>
   have H:=HA.out;clear HA;simp only [spec_tiPut.l0] at H;by_cases c4 : x5_1 < (l0.length : Int)
   ·rw [if_pos c4] at H;have c4b0 : decide (x5_1 < (l0.length : Int)) = true:=decide_eq_true c4;clear c4;by_cases c5 : 0 ≤ x5_1
    ·rw [if_pos c5] at H;have c5b0 : decide (0 ≤ x5_1) = true:=decide_eq_true c5;clear c5;by_cases c6 : ((rd_T63 l0 x5_1).f0) < a1_0
     ·rw [if_pos c6] at H;have c6b0 : decide (((rd_T63 l0 x5_1).f0) < a1_0) = true:=decide_eq_true c6;clear c6;have H' := Aside0.mk H;clear H;try go_wp2
      have n0_:=Aside0.mk (blk_drew BK101.out);have n1_:=Aside0.mk (below_drew1 HB.out);clear BK101 HB;have BK101:=n0_;have HB:=n1_;clear n0_ n1_;have p102 : 0 ≤ (x5_1 : Int):=of_decide_eq_true (q3_);have q102 : x5_1 < (l0.length : Int):=of_decide_eq_true (q3_);obtain ⟨ad102,e102,hx102_0,hx102_1,hx102_2⟩:=at_T63 HR0.out x5_1 p102 q102;have hw102_2:=hx102_2;have hw102_1:=hx102_1;have hw102_0:=hx102_0;cases e102;replace hx102_0:=(HB.out.cell (World.block_lt_of_cell? w _ hx102_0)).trans hx102_0;replace hx102_1:=(HB.out.cell (World.block_lt_of_cell? w _ hx102_1)).trans hx102_1;replace hx102_2:=(HB.out.cell (World.block_lt_of_cell? w _ hx102_2)).trans hx102_2;replace p102:=eq_true p102;replace q102:=eq_true q102;refine start_ (n:=14) (S:=fun w' => w'.cell? ⟨gb101,0,none⟩ = some (.int .i64 a1_0) ∧ w'.cell? ⟨gb101,1,none⟩ = some (.int .i64 a1_1) ∧ w'.cell? ⟨gb101,2,none⟩ = some (.string a1_2) ∧ w'.cell? (ad102.add ((x5_1).toNat * 3)) = some (.int .i64 ((rd_T63 l0 x5_1).f0)) ∧ w'.cell? ⟨(ad102.add ((x5_1).toNat * 3)).block,(ad102.add ((x5_1).toNat * 3)).off + 1,none⟩ = some (.int .i64 ((rd_T63 l0 x5_1).f1)) ∧ w'.cell? ⟨(ad102.add ((x5_1).toNat * 3)).block,(ad102.add ((x5_1).toNat * 3)).off + 2,none⟩ = some (.string ((rd_T63 l0 x5_1).f2))) (ds:=[]) #[false,false,false,false,false,false,false,false,false,false,false,false,false,false] (by kernel_rfl) rfl rfl ⟨(blk_cell BK101.out 0).trans rfl,(blk_cell BK101.out 1).trans rfl,(blk_cell BK101.out 2).trans rfl,((HB.out.cell (World.block_lt_of_cell? w _ hw102_0)).trans hw102_0),((HB.out.cell (World.block_lt_of_cell? w _ hw102_1)).trans hw102_1),((HB.out.cell (World.block_lt_of_cell? w _ hw102_2)).trans hw102_2)⟩ (fun hHeld=>?_);refine with_tabW spec_tiPut.tab2 spec_tiPut.bits2 (fun HT_ HW_=>?_);generalize wr.drew = w7 at BK101 HB hx102_0 hx102_1 hx102_2 hHeld ⊢;refine pure_ (i:=0) (N:=some 6) (v:=?_) (a' := ?_) #[true,false,false,false,false,false,false,false,false,false,false,false,false,false] rfl rfl (any_of HT_.out (by kernel_rfl)) (fun _ _ _ h=>h) (Or.inl ⟨by rfl,?_⟩) ?_ ?_;rotate_left
      ·intro w';go_simp;with_reducible rfl
      rotate_left
      ·exact q36_
      refine pure_ (i:=1) (N:=some 7) (v:=?_) (a' := ?_) #[true,true,false,false,false,false,false,false,false,false,false,false,false,false] rfl rfl (any_of HT_.out (by kernel_rfl)) (fun _ _ _ h=>h) (Or.inl ⟨by rfl,?_⟩) ?_ ?_;rotate_left
      ·intro w';go_simp;with_reducible rfl
      rotate_left
      ·exact q36_
      refine pure_ (i:=2) (N:=some 8) (v:=?_) (a' := ?_) #[true,true,true,false,false,false,false,false,false,false,false,false,false,false] rfl rfl (any_of HT_.out (by kernel_rfl)) (fun _ _ _ h=>h) (Or.inl ⟨by rfl,?_⟩) ?_ ?_;rotate_left
      ·intro w';go_simp;with_reducible rfl
      rotate_left
      ·exact q36_
      refine pure_ (i:=3) (N:=some 9) (v:=?_) (a' := ?_) #[true,true,true,true,false,false,false,false,false,false,false,false,false,false] rfl rfl (any_of HT_.out (by kernel_rfl)) (fun _ _ _ h=>h) (Or.inl ⟨by rfl,?_⟩) ?_ ?_;rotate_left
      ·intro w';go_simp;with_reducible rfl
      rotate_left
      ·exact q36_
      refine pure_ (i:=4) (N:=some 10) (v:=?_) (a' := ?_) #[true,true,true,true,true,false,false,false,false,false,false,false,false,false] rfl rfl (any_of HT_.out (by kernel_rfl)) (fun _ _ _ h=>h) (Or.inl ⟨by rfl,?_⟩) ?_ ?_;rotate_left
      ·intro w';go_simp;with_reducible rfl
      rotate_left
      ·exact q36_
      refine pure_ (i:=5) (N:=some 11) (v:=?_) (a' := ?_) #[true,true,true,true,true,true,false,false,false,false,false,false,false,false] rfl rfl (any_of HT_.out (by kernel_rfl)) (fun _ _ _ h=>h) (Or.inl ⟨by rfl,?_⟩) ?_ ?_;rotate_left
      ·intro w';go_simp;with_reducible rfl
      rotate_left
      ·exact q36_
      refine pure_ (i:=6) (N:=some 12) (v:=?_) (a' := ?_) #[true,true,true,true,true,true,true,false,false,false,false,false,false,false] rfl rfl (any_of HT_.out (by kernel_rfl)) (fun _ _ _ h=>h) (Or.inl ⟨by rfl,?_⟩) ?_ ?_;rotate_left
      ·intro w';go_simp;with_reducible rfl
      rotate_left
      ·exact q36_
      refine pure_ (i:=7) (N:=some 13) (v:=?_) (a' := ?_) #[true,true,true,true,true,true,true,true,false,false,false,false,false,false] rfl rfl (any_of HT_.out (by kernel_rfl)) (fun _ _ _ h=>h) (Or.inl ⟨by rfl,?_⟩) ?_ ?_;rotate_left
      ·intro w';go_simp;with_reducible rfl
      rotate_left
      ·exact q36_
      refine pure_ (i:=8) (N:=some 14) (v:=?_) (a' := ?_) #[true,true,true,true,true,true,true,true,true,false,false,false,false,false] rfl rfl (any_of HT_.out (by kernel_rfl)) (fun _ _ _ h=>h) (Or.inl ⟨by rfl,?_⟩) ?_ ?_;rotate_left
      ·intro w';go_simp;with_reducible rfl
      rotate_left
      ·exact q36_
      refine pure_ (i:=10) (N:=some 16) (v:=?_) (a' := ?_) #[true,true,true,true,true,true,true,true,true,false,true,false,false,false] rfl rfl (any_of HT_.out (by kernel_rfl)) (fun _ _ _ h=>h) (Or.inl ⟨by rfl,?_⟩) ?_ ?_;rotate_left
      ·intro w';go_simp;with_reducible rfl
      rotate_left
      ·exact q36_
      refine take_ (i:=9) (N:=some 15) (v:=?_) (a' := ?_) #[true,true,true,true,true,true,true,true,true,true,true,false,false,false] rfl rfl (take_ofW HT_.out HW_.out (by kernel_rfl)) (fun _ _ _ h=>h) (Or.inl ⟨by rfl,?_⟩) hHeld ?_ ?_;rotate_left
      ·rintro w' ⟨s0,s1,s2,s3,s4,s5⟩;go_simp;with_reducible rfl
      rotate_left
      ·exact q36_
      refine take_ (i:=11) (N:=some 17) (v:=?_) (a' := ?_) #[true,true,true,true,true,true,true,true,true,true,true,true,false,false] rfl rfl (take_ofW HT_.out HW_.out (by kernel_rfl)) (fun _ _ _ h=>h) (Or.inl ⟨by rfl,?_⟩) hHeld ?_ ?_;rotate_left
      ·rintro w' ⟨s0,s1,s2,s3,s4,s5⟩;go_simp;with_reducible rfl
      rotate_left
      ·exact q36_
      refine pure_ (i:=12) (N:=some 18) (v:=?_) (a' := ?_) #[true,true,true,true,true,true,true,true,true,true,true,true,true,false] rfl rfl (any_of HT_.out (by kernel_rfl)) (fun _ _ _ h=>h) (Or.inl ⟨by rfl,?_⟩) ?_ ?_;rotate_left
      ·intro w';go_simp;with_reducible rfl
      rotate_left
      ·exact q36_
      refine pure_ (i:=13) (N:=some 19) (v:=?_) (a' := ?_) #[true,true,true,true,true,true,true,true,true,true,true,true,true,true] rfl rfl (any_of HT_.out (by kernel_rfl)) (fun _ _ _ h=>h) (Or.inl ⟨by rfl,?_⟩) ?_ ?_;rotate_left
      ·intro w';go_simp;with_reducible rfl
      rotate_left
      ·exact q36_
      refine done_ (done_of HT_.out (by kernel_rfl)) ?_;try go_wp2
      go_roundg k1
      case measure=>have:=HK1.out;omega
      case rel=>exact ⟨(wrap64 (x5_1 + 1)),(q2_),H', ⟨by have:=HK1.out;omega⟩,⟨q14_⟩,⟨q22_⟩⟩
     ·rw [if_neg c6] at H;have c6b0 : decide (((rd_T63 l0 x5_1).f0) < a1_0) = false:=decide_eq_false c6;clear c6;obtain ⟨y103,hy103⟩ : ∃ y_ : List (S63),y_ = (([] : List (S63))):=⟨_,rfl⟩;replace H : (if x5_1 ≤ (l0.length : Int) then ((some (l0.take (x5_1 : Int).toNat : List (S63))).bind fun y106=>(if y103.length + y106.length < 4398046511104 then ((some (y103 ++ y106 : List (S63))).bind fun y110=>((some (([(⟨a1_0,a1_1,a1_2⟩ : S63)] : List (S63)) : List (S63))).bind fun y113=>(if y110.length + y113.length < 4398046511104 then ((some (y110 ++ y113 : List (S63))).bind fun y116=>((some (l0.drop (x5_1 : Int).toNat : List (S63))).bind fun y119=>(if y116.length + y119.length < 4398046511104 then (some (y116 ++ y119)) else (none)))) else (none)))) else (none))) else (none)) = some r:=by first | (rw [hy103];with_reducible exact H) | (have H2_:=(Option.bind_some _ _).symm.trans H;rw [hy103];with_reducible exact H2_) | (have H2_:=(Option.bind_some _ _).symm.trans H;with_reducible exact H2_) | with_reducible exact H | (rw [hy103];exact H) | exact H
      have Ny103:=Aside0.mk hy103;clear hy103;have c8b0:=eq_true (of_decide_eq_true (q3_) : 0 ≤ x5_1);by_cases c9 : x5_1 ≤ (l0.length : Int)
      ·rw [if_pos c9] at H;have c9b0:=eq_true c9;have c9b1 : decide (x5_1 ≤ (l0.length : Int)) = true:=decide_eq_true c9;clear c9;obtain ⟨y106,hy106⟩ : ∃ y_ : List (S63),y_ = (l0.take (x5_1 : Int).toNat):=⟨_,rfl⟩;replace H : (if y103.length + y106.length < 4398046511104 then ((some (y103 ++ y106 : List (S63))).bind fun y110=>((some (([(⟨a1_0,a1_1,a1_2⟩ : S63)] : List (S63)) : List (S63))).bind fun y113=>(if y110.length + y113.length < 4398046511104 then ((some (y110 ++ y113 : List (S63))).bind fun y116=>((some (l0.drop (x5_1 : Int).toNat : List (S63))).bind fun y119=>(if y116.length + y119.length < 4398046511104 then (some (y116 ++ y119)) else (none)))) else (none)))) else (none)) = some r:=by first | (rw [hy106];with_reducible exact H) | (have H2_:=(Option.bind_some _ _).symm.trans H;rw [hy106];with_reducible exact H2_) | (have H2_:=(Option.bind_some _ _).symm.trans H;with_reducible exact H2_) | with_reducible exact H | (rw [hy106];exact H) | exact H
       have Ny106:=Aside0.mk hy106;clear hy106;by_cases c10 : y103.length + y106.length < 4398046511104
       ·rw [if_pos c10] at H;have LMc10:=Aside0.mk c10;clear c10;obtain ⟨y110,hy110⟩ : ∃ y_ : List (S63),y_ = (y103 ++ y106):=⟨_,rfl⟩;replace H : ((some (([(⟨a1_0,a1_1,a1_2⟩ : S63)] : List (S63)) : List (S63))).bind fun y113=>(if y110.length + y113.length < 4398046511104 then ((some (y110 ++ y113 : List (S63))).bind fun y116=>((some (l0.drop (x5_1 : Int).toNat : List (S63))).bind fun y119=>(if y116.length + y119.length < 4398046511104 then (some (y116 ++ y119)) else (none)))) else (none))) = some r:=by first | (rw [hy110];with_reducible exact H) | (have H2_:=(Option.bind_some _ _).symm.trans H;rw [hy110];with_reducible exact H2_) | (have H2_:=(Option.bind_some _ _).symm.trans H;with_reducible exact H2_) | with_reducible exact H | (rw [hy110];exact H) | exact H
        have Ny110:=Aside0.mk hy110;clear hy110;obtain ⟨y113,hy113⟩ : ∃ y_ : List (S63),y_ = (([(⟨a1_0,a1_1,a1_2⟩ : S63)] : List (S63))):=⟨_,rfl⟩;replace H : (if y110.length + y113.length < 4398046511104 then ((some (y110 ++ y113 : List (S63))).bind fun y116=>((some (l0.drop (x5_1 : Int).toNat : List (S63))).bind fun y119=>(if y116.length + y119.length < 4398046511104 then (some (y116 ++ y119)) else (none)))) else (none)) = some r:=by first | (rw [hy113];with_reducible exact H) | (have H2_:=(Option.bind_some _ _).symm.trans H;rw [hy113];with_reducible exact H2_) | (have H2_:=(Option.bind_some _ _).symm.trans H;with_reducible exact H2_) | with_reducible exact H | (rw [hy113];exact H) | exact H
        have Ny113:=Aside0.mk hy113;clear hy113;by_cases c11 : y110.length + y113.length < 4398046511104
        ·rw [if_pos c11] at H;have LMc11:=Aside0.mk c11;clear c11;obtain ⟨y116,hy116⟩ : ∃ y_ : List (S63),y_ = (y110 ++ y113):=⟨_,rfl⟩;replace H : ((some (l0.drop (x5_1 : Int).toNat : List (S63))).bind fun y119=>(if y116.length + y119.length < 4398046511104 then (some (y116 ++ y119)) else (none))) = some r:=by first | (rw [hy116];with_reducible exact H) | (have H2_:=(Option.bind_some _ _).symm.trans H;rw [hy116];with_reducible exact H2_) | (have H2_:=(Option.bind_some _ _).symm.trans H;with_reducible exact H2_) | with_reducible exact H | (rw [hy116];exact H) | exact H
         have Ny116:=Aside0.mk hy116;clear hy116;have c12b0:=eq_true (of_decide_eq_true (q3_) : 0 ≤ x5_1);have c13b0:=eq_true (of_decide_eq_true (q3_) : x5_1 ≤ (l0.length : Int));obtain ⟨y119,hy119⟩ : ∃ y_ : List (S63),y_ = (l0.drop (x5_1 : Int).toNat):=⟨_,rfl⟩;replace H : (if y116.length + y119.length < 4398046511104 then (some (y116 ++ y119)) else (none)) = some r:=by first | (rw [hy119];with_reducible exact H) | (have H2_:=(Option.bind_some _ _).symm.trans H;rw [hy119];with_reducible exact H2_) | (have H2_:=(Option.bind_some _ _).symm.trans H;with_reducible exact H2_) | with_reducible exact H | (rw [hy119];exact H) | exact H
         have Ny119:=Aside0.mk hy119;clear hy119;by_cases c14 : y116.length + y119.length < 4398046511104
         ·rw [if_pos c14] at H;have LMc14:=Aside0.mk c14;clear c14;obtain ⟨y123,hy123⟩ : ∃ y_ : List (S63),y_ = (y116 ++ y119):=⟨_,rfl⟩;replace H : (some y123) = some r:=by first | (rw [hy123];with_reducible exact H) | (have H2_:=(Option.bind_some _ _).symm.trans H;rw [hy123];with_reducible exact H2_) | (have H2_:=(Option.bind_some _ _).symm.trans H;with_reducible exact H2_) | with_reducible exact H | (rw [hy123];exact H) | exact H
          have Ny123:=Aside0.mk hy123;clear hy123;obtain rfl:=Option.some.inj H;try go_wp2
          have n0_:=Aside0.mk (blk_drew BK101.out);have n1_:=Aside0.mk (below_drew1 HB.out);clear BK101 HB;have BK101:=n0_;have HB:=n1_;clear n0_ n1_;have p102 : 0 ≤ (x5_1 : Int):=of_decide_eq_true (q3_);have q102 : x5_1 < (l0.length : Int):=of_decide_eq_true (q3_);obtain ⟨ad102,e102,hx102_0,hx102_1,hx102_2⟩:=at_T63 HR0.out x5_1 p102 q102;have hw102_2:=hx102_2;have hw102_1:=hx102_1;have hw102_0:=hx102_0;cases e102;replace hx102_0:=(HB.out.cell (World.block_lt_of_cell? w _ hx102_0)).trans hx102_0;replace hx102_1:=(HB.out.cell (World.block_lt_of_cell? w _ hx102_1)).trans hx102_1;replace hx102_2:=(HB.out.cell (World.block_lt_of_cell? w _ hx102_2)).trans hx102_2;replace p102:=eq_true p102;replace q102:=eq_true q102;refine start_ (n:=14) (S:=fun w' => w'.cell? ⟨gb101,0,none⟩ = some (.int .i64 a1_0) ∧ w'.cell? ⟨gb101,1,none⟩ = some (.int .i64 a1_1) ∧ w'.cell? ⟨gb101,2,none⟩ = some (.string a1_2) ∧ w'.cell? (ad102.add ((x5_1).toNat * 3)) = some (.int .i64 ((rd_T63 l0 x5_1).f0)) ∧ w'.cell? ⟨(ad102.add ((x5_1).toNat * 3)).block,(ad102.add ((x5_1).toNat * 3)).off + 1,none⟩ = some (.int .i64 ((rd_T63 l0 x5_1).f1)) ∧ w'.cell? ⟨(ad102.add ((x5_1).toNat * 3)).block,(ad102.add ((x5_1).toNat * 3)).off + 2,none⟩ = some (.string ((rd_T63 l0 x5_1).f2))) (ds:=[]) #[false,false,false,false,false,false,false,false,false,false,false,false,false,false] (by kernel_rfl) rfl rfl ⟨(blk_cell BK101.out 0).trans rfl,(blk_cell BK101.out 1).trans rfl,(blk_cell BK101.out 2).trans rfl,((HB.out.cell (World.block_lt_of_cell? w _ hw102_0)).trans hw102_0),((HB.out.cell (World.block_lt_of_cell? w _ hw102_1)).trans hw102_1),((HB.out.cell (World.block_lt_of_cell? w _ hw102_2)).trans hw102_2)⟩ (fun hHeld=>?_);refine with_tabW spec_tiPut.tab2 spec_tiPut.bits2 (fun HT_ HW_=>?_);generalize wr.drew = w15 at BK101 HB hx102_0 hx102_1 hx102_2 hHeld ⊢;refine pure_ (i:=0) (N:=some 6) (v:=?_) (a' := ?_) #[true,false,false,false,false,false,false,false,false,false,false,false,false,false] rfl rfl (any_of HT_.out (by kernel_rfl)) (fun _ _ _ h=>h) (Or.inl ⟨by rfl,?_⟩) ?_ ?_;rotate_left
          ·intro w';go_simp;with_reducible rfl
          rotate_left
          ·exact q36_
          refine pure_ (i:=1) (N:=some 7) (v:=?_) (a' := ?_) #[true,true,false,false,false,false,false,false,false,false,false,false,false,false] rfl rfl (any_of HT_.out (by kernel_rfl)) (fun _ _ _ h=>h) (Or.inl ⟨by rfl,?_⟩) ?_ ?_;rotate_left
          ·intro w';go_simp;with_reducible rfl
          rotate_left
          ·exact q36_
          refine pure_ (i:=2) (N:=some 8) (v:=?_) (a' := ?_) #[true,true,true,false,false,false,false,false,false,false,false,false,false,false] rfl rfl (any_of HT_.out (by kernel_rfl)) (fun _ _ _ h=>h) (Or.inl ⟨by rfl,?_⟩) ?_ ?_;rotate_left
          ·intro w';go_simp;with_reducible rfl
          rotate_left
          ·exact q36_
          refine pure_ (i:=3) (N:=some 9) (v:=?_) (a' := ?_) #[true,true,true,true,false,false,false,false,false,false,false,false,false,false] rfl rfl (any_of HT_.out (by kernel_rfl)) (fun _ _ _ h=>h) (Or.inl ⟨by rfl,?_⟩) ?_ ?_;rotate_left
          ·intro w';go_simp;with_reducible rfl
          rotate_left
          ·exact q36_
          refine pure_ (i:=4) (N:=some 10) (v:=?_) (a' := ?_) #[true,true,true,true,true,false,false,false,false,false,false,false,false,false] rfl rfl (any_of HT_.out (by kernel_rfl)) (fun _ _ _ h=>h) (Or.inl ⟨by rfl,?_⟩) ?_ ?_;rotate_left
          ·intro w';go_simp;with_reducible rfl
          rotate_left
          ·exact q36_
          refine pure_ (i:=5) (N:=some 11) (v:=?_) (a' := ?_) #[true,true,true,true,true,true,false,false,false,false,false,false,false,false] rfl rfl (any_of HT_.out (by kernel_rfl)) (fun _ _ _ h=>h) (Or.inl ⟨by rfl,?_⟩) ?_ ?_;rotate_left
          ·intro w';go_simp;with_reducible rfl
          rotate_left
          ·exact q36_
          refine pure_ (i:=6) (N:=some 12) (v:=?_) (a' := ?_) #[true,true,true,true,true,true,true,false,false,false,false,false,false,false] rfl rfl (any_of HT_.out (by kernel_rfl)) (fun _ _ _ h=>h) (Or.inl ⟨by rfl,?_⟩) ?_ ?_;rotate_left
          ·intro w';go_simp;with_reducible rfl
          rotate_left
          ·exact q36_
          refine pure_ (i:=7) (N:=some 13) (v:=?_) (a' := ?_) #[true,true,true,true,true,true,true,true,false,false,false,false,false,false] rfl rfl (any_of HT_.out (by kernel_rfl)) (fun _ _ _ h=>h) (Or.inl ⟨by rfl,?_⟩) ?_ ?_;rotate_left
          ·intro w';go_simp;with_reducible rfl
          rotate_left
          ·exact q36_
          refine pure_ (i:=8) (N:=some 14) (v:=?_) (a' := ?_) #[true,true,true,true,true,true,true,true,true,false,false,false,false,false] rfl rfl (any_of HT_.out (by kernel_rfl)) (fun _ _ _ h=>h) (Or.inl ⟨by rfl,?_⟩) ?_ ?_;rotate_left
          ·intro w';go_simp;with_reducible rfl
          rotate_left
          ·exact q36_
          refine pure_ (i:=10) (N:=some 16) (v:=?_) (a' := ?_) #[true,true,true,true,true,true,true,true,true,false,true,false,false,false] rfl rfl (any_of HT_.out (by kernel_rfl)) (fun _ _ _ h=>h) (Or.inl ⟨by rfl,?_⟩) ?_ ?_;rotate_left
          ·intro w';go_simp;with_reducible rfl
          rotate_left
          ·exact q36_
          refine take_ (i:=9) (N:=some 15) (v:=?_) (a' := ?_) #[true,true,true,true,true,true,true,true,true,true,true,false,false,false] rfl rfl (take_ofW HT_.out HW_.out (by kernel_rfl)) (fun _ _ _ h=>h) (Or.inl ⟨by rfl,?_⟩) hHeld ?_ ?_;rotate_left
          ·rintro w' ⟨s0,s1,s2,s3,s4,s5⟩;go_simp;with_reducible rfl
          rotate_left
          ·exact q36_
          refine take_ (i:=11) (N:=some 17) (v:=?_) (a' := ?_) #[true,true,true,true,true,true,true,true,true,true,true,true,false,false] rfl rfl (take_ofW HT_.out HW_.out (by kernel_rfl)) (fun _ _ _ h=>h) (Or.inl ⟨by rfl,?_⟩) hHeld ?_ ?_;rotate_left
          ·rintro w' ⟨s0,s1,s2,s3,s4,s5⟩;go_simp;with_reducible rfl
          rotate_left
          ·exact q36_
          refine pure_ (i:=12) (N:=some 18) (v:=?_) (a' := ?_) #[true,true,true,true,true,true,true,true,true,true,true,true,true,false] rfl rfl (any_of HT_.out (by kernel_rfl)) (fun _ _ _ h=>h) (Or.inl ⟨by rfl,?_⟩) ?_ ?_;rotate_left
          ·intro w';go_simp;with_reducible rfl
          rotate_left
          ·exact q36_
          refine pure_ (i:=13) (N:=some 19) (v:=?_) (a' := ?_) #[true,true,true,true,true,true,true,true,true,true,true,true,true,true] rfl rfl (any_of HT_.out (by kernel_rfl)) (fun _ _ _ h=>h) (Or.inl ⟨by rfl,?_⟩) ?_ ?_;rotate_left
          ·intro w';go_simp;with_reducible rfl
          rotate_left
          ·exact q36_
          refine done_ (done_of HT_.out (by kernel_rfl)) ?_;try go_wp2
          have n0_:=Aside0.mk (blk_drew BK101.out);have n1_:=Aside0.mk (below_drew1 HB.out);clear BK101 HB;have BK101:=n0_;have HB:=n1_;clear n0_ n1_;have q17 : (x5_1 : Int) ≤ ((l0.length : Int) : Int):=of_decide_eq_true (q3_);obtain ⟨i017,hi017,_,hsz17,_⟩:=info_parts info63;have hroom17 : l0.length ≤ c0:=HC0.out;have hC17 : Kd.C k63 _ (some ad102) l0.length l0:=HR0.out;have hcut17:=cut_to (P:=Try.prog) 26 63 .i64 Try.underlying26 hi017 (some ad102) l0.length c0 x5_1 (of_decide_eq_true (q3_)) q17 hroom17;have hr17:=Kd.C_take (m:=(x5_1 : Int).toNat) hC17 (by omega);have hy17 : y106.length = (x5_1 : Int).toNat:=(by rw [Ny106.out,List.length_take];omega);rw [← Ny106.out] at hr17;rw [← hy17] at hcut17;have HR109:=Aside0.mk hr17;have HC109:=Aside0.mk (show y106.length ≤ c0 from by omega);clear hr17 hC17 hroom17 hi017 hsz17;have KY17:=Aside0.mk hy17;clear hy17;replace q17:=eq_true q17;have q18 : (x5_1 : Int) ≤ ((l0.length : Int) : Int):=of_decide_eq_true (q3_);obtain ⟨i018,hi018,_,hsz18,_⟩:=info_parts info63;have hroom18 : l0.length ≤ c0:=HC0.out;have hC18 : Kd.C k63 _ (some ad102) l0.length l0:=HR0.out;have q018 : (0 : Int) ≤ (x5_1 : Int):=of_decide_eq_true (q3_);have hcut18:=cut_from (P:=Try.prog) 26 63 .i64 Try.underlying26 hi018 3 hsz18 (some ad102) l0.length c0 x5_1 q018 q18;have hr18:=Kd.C_drop (m:=(x5_1 : Int).toNat) (c:=c0) hC18 (by omega) hroom18;obtain ⟨A18,hA18⟩ : ∃ A1,A1 = (if c0 = (x5_1 : Int).toNat then (some ad102) else ((some ad102) : Option Addr).map (·.add ((x5_1 : Int).toNat * 3))):=⟨_,rfl⟩;obtain ⟨c18,hc18⟩ : ∃ c1,c1 = c0 - (x5_1 : Int).toNat:=⟨_,rfl⟩;have hy18 : y119.length = l0.length - (x5_1 : Int).toNat:=(by rw [Ny119.out,List.length_drop] <;> omega);rw [show (l0).drop (x5_1 : Int).toNat = y119 from Ny119.out.symm] at hr18;replace hr18 : Kd.C k63 _ A18 y119.length y119:=(by rw [hA18];exact hr18);rw [← hy18,← hA18,← hc18] at hcut18;have HR122:=Aside0.mk hr18;have HC122:=Aside0.mk (show y119.length ≤ c18 from by rw [hy18,hc18];exact Nat.sub_le_sub_right hroom18 _);clear hr18 hC18 hroom18 hi018 hsz18 hc18;have KY18:=Aside0.mk hy18;have KA18:=Aside0.mk hA18;clear hy18 hA18;replace q18:=eq_true q18;refine start_ (n:=13) (S:=fun w' => w'.cell? ⟨gb101,0,none⟩ = some (.int .i64 a1_0) ∧ w'.cell? ⟨gb101,1,none⟩ = some (.int .i64 a1_1) ∧ w'.cell? ⟨gb101,2,none⟩ = some (.string a1_2)) (ds:=[]) #[false,false,false,false,false,false,false,false,false,false,false,false,false] (by kernel_rfl) rfl rfl ⟨(blk_cell BK101.out 0).trans rfl,(blk_cell BK101.out 1).trans rfl,(blk_cell BK101.out 2).trans rfl⟩ (fun hHeld=>?_);refine with_tabW spec_tiPut.tab4 spec_tiPut.bits4 (fun HT_ HW_=>?_);generalize w15.drew = w16 at BK101 HB HR109 HR122 hHeld ⊢;refine pure_ (i:=1) (N:=some 23) (v:=?_) (a' := ?_) #[false,true,false,false,false,false,false,false,false,false,false,false,false] rfl rfl (any_of HT_.out (by kernel_rfl)) (fun _ _ _ h=>h) (Or.inl ⟨by rfl,?_⟩) ?_ ?_;rotate_left
          ·intro w';go_simp;with_reducible rfl
          rotate_left
          ·exact q36_
          refine pure_ (i:=2) (N:=some 24) (v:=?_) (a' := ?_) #[false,true,true,false,false,false,false,false,false,false,false,false,false] rfl rfl (any_of HT_.out (by kernel_rfl)) (fun _ _ _ h=>h) (Or.inl ⟨by rfl,?_⟩) ?_ ?_;rotate_left
          ·intro w';go_simp;with_reducible rfl
          rotate_left
          ·exact q36_
          refine pure_ (i:=3) (N:=some 25) (v:=?_) (a' := ?_) #[false,true,true,true,false,false,false,false,false,false,false,false,false] rfl rfl (any_of HT_.out (by kernel_rfl)) (fun _ _ _ h=>h) (Or.inl ⟨by rfl,?_⟩) ?_ ?_;rotate_left
          ·intro w';go_simp;with_reducible rfl
          rotate_left
          ·exact q36_
          refine pure_ (i:=8) (N:=some 30) (v:=?_) (a' := ?_) #[false,true,true,true,false,false,false,false,true,false,false,false,false] rfl rfl (any_of HT_.out (by kernel_rfl)) (fun _ _ _ h=>h) (Or.inl ⟨by rfl,?_⟩) ?_ ?_;rotate_left
          ·intro w';go_simp;with_reducible rfl
          rotate_left
          ·exact q36_
          refine pure_ (i:=9) (N:=some 31) (v:=?_) (a' := ?_) #[false,true,true,true,false,false,false,false,true,true,false,false,false] rfl rfl (any_of HT_.out (by kernel_rfl)) (fun _ _ _ h=>h) (Or.inl ⟨by rfl,?_⟩) ?_ ?_;rotate_left
          ·intro w';go_simp;with_reducible rfl
          rotate_left
          ·exact q36_
          refine pure_ (i:=10) (N:=some 32) (v:=?_) (a' := ?_) #[false,true,true,true,false,false,false,false,true,true,true,false,false] rfl rfl (any_of HT_.out (by kernel_rfl)) (fun _ _ _ h=>h) (Or.inl ⟨by rfl,?_⟩) ?_ ?_;rotate_left
          ·intro w';go_simp;with_reducible rfl
          rotate_left
          ·exact q36_
          refine take_ (i:=5) (N:=some 27) (v:=?_) (a' := ?_) #[false,true,true,true,false,true,false,false,true,true,true,false,false] rfl rfl (take_ofW HT_.out HW_.out (by kernel_rfl)) (fun _ _ _ h=>h) (Or.inl ⟨by rfl,?_⟩) hHeld ?_ ?_;rotate_left
          ·rintro w' ⟨s0,s1,s2⟩;go_simp;with_reducible rfl
          rotate_left
          ·exact q36_
          refine join_ (σ:=Value × Value × Value) 3 #[true,true,true,true,true,true,true,false,true,true,true,false,false] (fun s_=>[(22,s_.1),(26,s_.2.1),(28,s_.2.2)]) (fun s_ w' => (w'.cell? ⟨gb101,0,none⟩ = some (.int .i64 a1_0) ∧ w'.cell? ⟨gb101,1,none⟩ = some (.int .i64 a1_1) ∧ w'.cell? ⟨gb101,2,none⟩ = some (.string a1_2)) ∧ (Kd.R k63 63 w' w.heap.size (fun k_=>some k_ ≠ (s_.2.2 : Value).ownBlock ∧ k_ ≠ gb101) s_.2.1 y110) ∧ (Kd.R k63 63 w' w.heap.size (fun k_=>some k_ ≠ (s_.2.1 : Value).ownBlock ∧ k_ ≠ gb101) s_.2.2 y113) ∧ (w'.heap[gb101]? = some (.cells #[.int .i64 a1_0,.int .i64 a1_1,.string a1_2] 63 (0,0))) ∧ (Below w.heap.size w w')) ?_ ?_;rotate_left
          ·intro hCont;refine two_ (i:=0) (j:=6) (Ni:=some 22) (Nj:=some 28) #[true,true,true,true,false,true,false,false,true,true,true,false,false] #[false,true,true,true,false,true,true,false,true,true,true,false,false] rfl rfl rfl rfl (two_of HT_.out (by kernel_rfl)) (by decide) (by decide) (fun K hK=>?_) (fun K hK=>?_)
           ·skip
            refine Kd.R_lit_step k63 _ 63 ?hg (N:=22) ?hd (xs:=([] : List (S63))) (inner:=[]) (ok:=fun _=>True) (okp:=fun _=>True) ?hr ?hp (fun _ hk=>hk) trivial (Below.refl _ _) (Nat.le_refl _) (by simp) ?_;(case hd=>rfl);(case hg=>rfl);(case hr=>first | (go_simp;done) | (go_simp;rfl));(case hp=>exact (Reps.none _ _));intro v104 w19 ho20 hb hg_ hnew_;clear hg_ hnew_
            (first | rw [← Ny103.out] at ho20 | (simp only [Int.reduceToNat] at ho20;rw [← Ny103.out] at ho20))
            have n0_:=Aside0.mk (Kd.R_lower (Kd.R_newB ho20 (g:=gb101) (o:=.cells #[.int .i64 a1_0,.int .i64 a1_1,.string a1_2] 63 (0,0)) (q14_)) (below_size (q22_)));have n1_:=Aside0.mk (blk_below (g:=gb101) (o:=.cells #[.int .i64 a1_0,.int .i64 a1_1,.string a1_2] 63 (0,0)) (q14_) hb);have n2_:=Aside0.mk (below_step (q22_) hb);clear BK101 HB;have HO105:=n0_;have BK101:=n1_;have HB:=n2_;clear n0_ n1_ n2_ hb ho20;refine hK.out _ _ ⟨(blk_cell BK101.out 0).trans rfl,(blk_cell BK101.out 1).trans rfl,(blk_cell BK101.out 2).trans rfl⟩ (fun hHeld=>?_);clear hK K;refine norm_ (a' := ?_) ?_ ?_;rotate_left
            ·show Act.put _ (some 22) _ = _;simp only [Act.put,List.setIfInBounds_toArray,List.set_cons_zero,List.set_cons_succ,i64_w,i32_w];rfl
            refine two_ (i:=4) (j:=6) (Ni:=some 26) (Nj:=some 28) #[true,true,true,true,true,true,false,false,true,true,true,false,false] #[true,true,true,true,false,true,true,false,true,true,true,false,false] rfl rfl rfl rfl (two_of HT_.out (by kernel_rfl)) (by decide) (by decide) (fun K hK=>?_) (fun K hK=>?_)
            ·skip
             refine Kd.R_append_rows_step k63 (w0:=w) w.heap.size (by rfl) (.tmp 22) (.tmp 25) 26 63 (.agg #[(.int .i64 0),(.int .i64 0),(.string ⟨#[]⟩)]) 32 rfl Try.underlying26 info63 rfl (by decide) (by omega) v104 y103 y106 _ _ _ (fun k_=>k_ ≠ gb101) (fun _=>False) rfl rfl ?aO ?aR (fun _ _ h=>h) (fun _ h=>h.elim) ?aF ?aB ?aS ?aL ?_
             (case aR=>repeat (first | exact (Kd.C_below HR109.out HB.out) | (with_reducible refine Kd.C_alloc ?_ _) | (with_reducible refine Kd.C_drewN ?_ _) | (with_reducible refine Kd.C_drew ?_)))
             (case aB=>exact (q22_))
             (case aF=>exact (fun k_ hk=>Kd.freshB (g:=gb101) (o:=.cells #[.int .i64 a1_0,.int .i64 a1_1,.string a1_2] 63 (0,0)) (q14_) k_ hk))
             (case aO=>exact (by (with_reducible repeat (first | apply Kd.R_alloc | apply Kd.R_drewN | apply Kd.R_drew));exact Kd.R_mono HO105.out (fun _ hk=>hk.2)))
             (case aS=>exact (below_size (q22_)))
             (case aL=>have:=LMc10.out;omega)
             intro v111 w21 ho hb hg hat;rw [← Ny110.out] at ho;have n0_:=Aside0.mk (blk_grown (g:=gb101) (o:=.cells #[.int .i64 a1_0,.int .i64 a1_1,.string a1_2] 63 (0,0)) (q14_) hg (Kd.R_away HO105.out (fun _ hk=>hk.2)));have n1_:=Aside0.mk (hb);have n2_:=Aside0.mk (ho);clear BK101 HB HO105;have BK101:=n0_;have HB:=n1_;have HO112:=n2_;clear n0_ n1_ n2_ ho hb hg hat;refine hK.out _ _ ⟨(blk_cell BK101.out 0).trans rfl,(blk_cell BK101.out 1).trans rfl,(blk_cell BK101.out 2).trans rfl⟩ (fun hHeld=>?_);clear hK K;refine norm_ (a' := ?_) ?_ ?_;rotate_left
             ·show Act.put _ (some 26) _ = _;simp only [Act.put,List.setIfInBounds_toArray,List.set_cons_zero,List.set_cons_succ,i64_w,i32_w];rfl
             refine one_ (i:=6) (N:=some 28) #[true,true,true,true,true,true,true,false,true,true,true,false,false] rfl rfl (one_of HT_.out (by kernel_rfl)) (by decide) (fun K hK=>?_);refine Kd.R_lit_step k63 _ 63 ?hg (N:=28) ?hd (xs:=([(⟨a1_0,a1_1,a1_2⟩ : S63)] : List (S63))) (inner:=[.int .i64 a1_0,.int .i64 a1_1,.string a1_2]) (ok:=fun _=>True) (okp:=fun _=>True) ?hr ?hp (fun _ hk=>hk) trivial (Below.refl _ _) (Nat.le_refl _) (by simp) ?_;(case hd=>rfl);(case hg=>rfl);(case hr=>first | (go_simp;done) | (go_simp;rfl));(case hp=>exact (Reps.c3 (show Kd.M k63 _ _ _ (⟨a1_0,a1_1,a1_2⟩ : S63) [.int .i64 a1_0,.int .i64 a1_1,.string a1_2] from (k63_mkM _ _ _ (⟨a1_0,a1_1,a1_2⟩ : S63) )) (Reps.none _ _)));intro v114 w22 ho23 hb hg_ hnew_;clear hg_ hnew_
             (first | rw [← Ny113.out] at ho23 | (simp only [Int.reduceToNat] at ho23;rw [← Ny113.out] at ho23))
             have n0_:=Aside0.mk (Kd.R_elder' (by (with_reducible repeat (first | apply Kd.R_alloc | apply Kd.R_drewN | apply Kd.R_drew));exact HO112.out) (Kd.R_base ho23) hb);have n1_:=Aside0.mk (Kd.R_lower (Kd.R_newB (Kd.R_new' ho23 (Kd.R_lt (by (with_reducible repeat (first | apply Kd.R_alloc | apply Kd.R_drewN | apply Kd.R_drew));exact HO112.out))) (g:=gb101) (o:=.cells #[.int .i64 a1_0,.int .i64 a1_1,.string a1_2] 63 (0,0)) (q14_)) (below_size (q22_)));have n2_:=Aside0.mk (blk_below (g:=gb101) (o:=.cells #[.int .i64 a1_0,.int .i64 a1_1,.string a1_2] 63 (0,0)) (q14_) hb);have n3_:=Aside0.mk (below_step (q22_) hb);clear HO112 BK101 HB;have HO112:=n0_;have HO115:=n1_;have BK101:=n2_;have HB:=n3_;clear n0_ n1_ n2_ n3_ hb ho23;refine hK.out _ _ ⟨(blk_cell BK101.out 0).trans rfl,(blk_cell BK101.out 1).trans rfl,(blk_cell BK101.out 2).trans rfl⟩ (fun hHeld=>?_);clear hK K;refine norm_ (a' := ?_) ?_ ?_;rotate_left
             ·show Act.put _ (some 28) _ = _;simp only [Act.put,List.setIfInBounds_toArray,List.set_cons_zero,List.set_cons_succ,i64_w,i32_w];rfl
             exact norm_ (by simp only [putAll,Act.put,List.setIfInBounds_toArray,List.set_cons_zero,List.set_cons_succ]) (hCont (v104,v111,v114) _ ⟨hHeld,(by (with_reducible repeat (first | apply Kd.R_alloc | apply Kd.R_drewN | apply Kd.R_drew));exact Kd.R_mono HO112.out (fun _ hk=>⟨hk.2,hk.1⟩)),(by (with_reducible repeat (first | apply Kd.R_alloc | apply Kd.R_drewN | apply Kd.R_drew));exact Kd.R_mono HO115.out (fun _ hk=>⟨hk.1.2,hk.2⟩)),(q14_),(q22_)⟩)
            ·skip
             refine Kd.R_lit_step k63 _ 63 ?hg (N:=28) ?hd (xs:=([(⟨a1_0,a1_1,a1_2⟩ : S63)] : List (S63))) (inner:=[.int .i64 a1_0,.int .i64 a1_1,.string a1_2]) (ok:=fun _=>True) (okp:=fun _=>True) ?hr ?hp (fun _ hk=>hk) trivial (Below.refl _ _) (Nat.le_refl _) (by simp) ?_;(case hd=>rfl);(case hg=>rfl);(case hr=>first | (go_simp;done) | (go_simp;rfl));(case hp=>exact (Reps.c3 (show Kd.M k63 _ _ _ (⟨a1_0,a1_1,a1_2⟩ : S63) [.int .i64 a1_0,.int .i64 a1_1,.string a1_2] from (k63_mkM _ _ _ (⟨a1_0,a1_1,a1_2⟩ : S63) )) (Reps.none _ _)));intro v114 w21 ho22 hb hg_ hnew_;clear hg_ hnew_
             (first | rw [← Ny113.out] at ho22 | (simp only [Int.reduceToNat] at ho22;rw [← Ny113.out] at ho22))
             have n0_:=Aside0.mk (Kd.R_elder' (q11_) (Kd.R_base ho22) hb);have n1_:=Aside0.mk (Kd.R_lower (Kd.R_newB (Kd.R_new' ho22 (Kd.R_lt (q11_))) (g:=gb101) (o:=.cells #[.int .i64 a1_0,.int .i64 a1_1,.string a1_2] 63 (0,0)) (q14_)) (below_size (q22_)));have n2_:=Aside0.mk (blk_below (g:=gb101) (o:=.cells #[.int .i64 a1_0,.int .i64 a1_1,.string a1_2] 63 (0,0)) (q14_) hb);have n3_:=Aside0.mk (below_step (q22_) hb);clear HO105 BK101 HB;have HO105:=n0_;have HO115:=n1_;have BK101:=n2_;have HB:=n3_;clear n0_ n1_ n2_ n3_ hb ho22;refine hK.out _ _ ⟨(blk_cell BK101.out 0).trans rfl,(blk_cell BK101.out 1).trans rfl,(blk_cell BK101.out 2).trans rfl⟩ (fun hHeld=>?_);clear hK K;refine norm_ (a' := ?_) ?_ ?_;rotate_left
             ·show Act.put _ (some 28) _ = _;simp only [Act.put,List.setIfInBounds_toArray,List.set_cons_zero,List.set_cons_succ,i64_w,i32_w];rfl
             refine one_ (i:=4) (N:=some 26) #[true,true,true,true,true,true,true,false,true,true,true,false,false] rfl rfl (one_of HT_.out (by kernel_rfl)) (by decide) (fun K hK=>?_);refine Kd.R_append_rows_step k63 (w0:=w) w.heap.size (by rfl) (.tmp 22) (.tmp 25) 26 63 (.agg #[(.int .i64 0),(.int .i64 0),(.string ⟨#[]⟩)]) 32 rfl Try.underlying26 info63 rfl (by decide) (by omega) v104 y103 y106 _ _ _ (fun k_=>some k_ ≠ (v114 : Value).ownBlock ∧ k_ ≠ gb101) (fun _=>False) rfl rfl ?aO ?aR (fun _ _ h=>h) (fun _ h=>h.elim) ?aF ?aB ?aS ?aL ?_
             (case aR=>repeat (first | exact (Kd.C_below HR109.out HB.out) | (with_reducible refine Kd.C_alloc ?_ _) | (with_reducible refine Kd.C_drewN ?_ _) | (with_reducible refine Kd.C_drew ?_)))
             (case aB=>exact (q22_))
             (case aF=>exact (fun k_ hk=>⟨Kd.fresh' (Kd.R_lt (by (with_reducible repeat (first | apply Kd.R_alloc | apply Kd.R_drewN | apply Kd.R_drew));exact HO115.out)) k_ hk,Kd.freshB (g:=gb101) (o:=.cells #[.int .i64 a1_0,.int .i64 a1_1,.string a1_2] 63 (0,0)) (q14_) k_ hk⟩))
             (case aO=>exact (by (with_reducible repeat (first | apply Kd.R_alloc | apply Kd.R_drewN | apply Kd.R_drew));exact Kd.R_mono HO105.out (fun _ hk=>⟨hk.2,hk.1.2⟩)))
             (case aS=>exact (below_size (q22_)))
             (case aL=>have:=LMc10.out;omega)
             intro v111 w23 ho hb hg hat;rw [← Ny110.out] at ho;have n0_:=Aside0.mk (blk_grown (g:=gb101) (o:=.cells #[.int .i64 a1_0,.int .i64 a1_1,.string a1_2] 63 (0,0)) (q14_) hg (Kd.R_away HO105.out (fun _ hk=>hk.1.2)));have n1_:=Aside0.mk (Kd.R_after (ok:=(fun k_=>k_ ≠ gb101)) (by (with_reducible repeat (first | apply Kd.R_alloc | apply Kd.R_drewN | apply Kd.R_drew));exact Kd.R_mono HO115.out (fun _ hk=>⟨hk.2,hk.1.2⟩)) hg hat);have n2_:=Aside0.mk (hb);have n3_:=Aside0.mk (ho);clear BK101 HO115 HB HO105;have BK101:=n0_;have HO115:=n1_;have HB:=n2_;have HO112:=n3_;clear n0_ n1_ n2_ n3_ ho hb hg hat;refine hK.out _ _ ⟨(blk_cell BK101.out 0).trans rfl,(blk_cell BK101.out 1).trans rfl,(blk_cell BK101.out 2).trans rfl⟩ (fun hHeld=>?_);clear hK K;refine norm_ (a' := ?_) ?_ ?_;rotate_left
             ·show Act.put _ (some 26) _ = _;simp only [Act.put,List.setIfInBounds_toArray,List.set_cons_zero,List.set_cons_succ,i64_w,i32_w];rfl
             exact norm_ (by simp only [putAll,Act.put,List.setIfInBounds_toArray,List.set_cons_zero,List.set_cons_succ]) (hCont (v104,v111,v114) _ ⟨hHeld,(by (with_reducible repeat (first | apply Kd.R_alloc | apply Kd.R_drewN | apply Kd.R_drew));exact HO112.out),(by (with_reducible repeat (first | apply Kd.R_alloc | apply Kd.R_drewN | apply Kd.R_drew));exact Kd.R_mono HO115.out (fun _ hk=>⟨hk.2,hk.1⟩)),(q14_),(q22_)⟩)
           ·skip
            refine Kd.R_lit_step k63 _ 63 ?hg (N:=28) ?hd (xs:=([(⟨a1_0,a1_1,a1_2⟩ : S63)] : List (S63))) (inner:=[.int .i64 a1_0,.int .i64 a1_1,.string a1_2]) (ok:=fun _=>True) (okp:=fun _=>True) ?hr ?hp (fun _ hk=>hk) trivial (Below.refl _ _) (Nat.le_refl _) (by simp) ?_;(case hd=>rfl);(case hg=>rfl);(case hr=>first | (go_simp;done) | (go_simp;rfl));(case hp=>exact (Reps.c3 (show Kd.M k63 _ _ _ (⟨a1_0,a1_1,a1_2⟩ : S63) [.int .i64 a1_0,.int .i64 a1_1,.string a1_2] from (k63_mkM _ _ _ (⟨a1_0,a1_1,a1_2⟩ : S63) )) (Reps.none _ _)));intro v114 w19 ho20 hb hg_ hnew_;clear hg_ hnew_
            (first | rw [← Ny113.out] at ho20 | (simp only [Int.reduceToNat] at ho20;rw [← Ny113.out] at ho20))
            have n0_:=Aside0.mk (Kd.R_lower (Kd.R_newB ho20 (g:=gb101) (o:=.cells #[.int .i64 a1_0,.int .i64 a1_1,.string a1_2] 63 (0,0)) (q14_)) (below_size (q22_)));have n1_:=Aside0.mk (blk_below (g:=gb101) (o:=.cells #[.int .i64 a1_0,.int .i64 a1_1,.string a1_2] 63 (0,0)) (q14_) hb);have n2_:=Aside0.mk (below_step (q22_) hb);clear BK101 HB;have HO115:=n0_;have BK101:=n1_;have HB:=n2_;clear n0_ n1_ n2_ hb ho20;refine hK.out _ _ ⟨(blk_cell BK101.out 0).trans rfl,(blk_cell BK101.out 1).trans rfl,(blk_cell BK101.out 2).trans rfl⟩ (fun hHeld=>?_);clear hK K;refine norm_ (a' := ?_) ?_ ?_;rotate_left
            ·show Act.put _ (some 28) _ = _;simp only [Act.put,List.setIfInBounds_toArray,List.set_cons_zero,List.set_cons_succ,i64_w,i32_w];rfl
            refine one_ (i:=0) (N:=some 22) #[true,true,true,true,false,true,true,false,true,true,true,false,false] rfl rfl (one_of HT_.out (by kernel_rfl)) (by decide) (fun K hK=>?_);refine Kd.R_lit_step k63 _ 63 ?hg (N:=22) ?hd (xs:=([] : List (S63))) (inner:=[]) (ok:=fun _=>True) (okp:=fun _=>True) ?hr ?hp (fun _ hk=>hk) trivial (Below.refl _ _) (Nat.le_refl _) (by simp) ?_;(case hd=>rfl);(case hg=>rfl);(case hr=>first | (go_simp;done) | (go_simp;rfl));(case hp=>exact (Reps.none _ _));intro v104 w21 ho22 hb hg_ hnew_;clear hg_ hnew_
            (first | rw [← Ny103.out] at ho22 | (simp only [Int.reduceToNat] at ho22;rw [← Ny103.out] at ho22))
            have n0_:=Aside0.mk (Kd.R_elder' (by (with_reducible repeat (first | apply Kd.R_alloc | apply Kd.R_drewN | apply Kd.R_drew));exact HO115.out) (Kd.R_base ho22) hb);have n1_:=Aside0.mk (Kd.R_lower (Kd.R_newB (Kd.R_new' ho22 (Kd.R_lt (by (with_reducible repeat (first | apply Kd.R_alloc | apply Kd.R_drewN | apply Kd.R_drew));exact HO115.out))) (g:=gb101) (o:=.cells #[.int .i64 a1_0,.int .i64 a1_1,.string a1_2] 63 (0,0)) (q14_)) (below_size (q22_)));have n2_:=Aside0.mk (blk_below (g:=gb101) (o:=.cells #[.int .i64 a1_0,.int .i64 a1_1,.string a1_2] 63 (0,0)) (q14_) hb);have n3_:=Aside0.mk (below_step (q22_) hb);clear HO115 BK101 HB;have HO115:=n0_;have HO105:=n1_;have BK101:=n2_;have HB:=n3_;clear n0_ n1_ n2_ n3_ hb ho22;refine hK.out _ _ ⟨(blk_cell BK101.out 0).trans rfl,(blk_cell BK101.out 1).trans rfl,(blk_cell BK101.out 2).trans rfl⟩ (fun hHeld=>?_);clear hK K;refine norm_ (a' := ?_) ?_ ?_;rotate_left
            ·show Act.put _ (some 22) _ = _;simp only [Act.put,List.setIfInBounds_toArray,List.set_cons_zero,List.set_cons_succ,i64_w,i32_w];rfl
            refine one_ (i:=4) (N:=some 26) #[true,true,true,true,true,true,true,false,true,true,true,false,false] rfl rfl (one_of HT_.out (by kernel_rfl)) (by decide) (fun K hK=>?_);refine Kd.R_append_rows_step k63 (w0:=w) w.heap.size (by rfl) (.tmp 22) (.tmp 25) 26 63 (.agg #[(.int .i64 0),(.int .i64 0),(.string ⟨#[]⟩)]) 32 rfl Try.underlying26 info63 rfl (by decide) (by omega) v104 y103 y106 _ _ _ (fun k_=>some k_ ≠ (v114 : Value).ownBlock ∧ k_ ≠ gb101) (fun _=>False) rfl rfl ?aO ?aR (fun _ _ h=>h) (fun _ h=>h.elim) ?aF ?aB ?aS ?aL ?_
            (case aR=>repeat (first | exact (Kd.C_below HR109.out HB.out) | (with_reducible refine Kd.C_alloc ?_ _) | (with_reducible refine Kd.C_drewN ?_ _) | (with_reducible refine Kd.C_drew ?_)))
            (case aB=>exact (q22_))
            (case aF=>exact (fun k_ hk=>⟨Kd.fresh' (Kd.R_lt (by (with_reducible repeat (first | apply Kd.R_alloc | apply Kd.R_drewN | apply Kd.R_drew));exact HO115.out)) k_ hk,Kd.freshB (g:=gb101) (o:=.cells #[.int .i64 a1_0,.int .i64 a1_1,.string a1_2] 63 (0,0)) (q14_) k_ hk⟩))
            (case aO=>exact (by (with_reducible repeat (first | apply Kd.R_alloc | apply Kd.R_drewN | apply Kd.R_drew));exact Kd.R_mono HO105.out (fun _ hk=>⟨hk.1.2,hk.2⟩)))
            (case aS=>exact (below_size (q22_)))
            (case aL=>have:=LMc10.out;omega)
            intro v111 w23 ho hb hg hat;rw [← Ny110.out] at ho;have n0_:=Aside0.mk (blk_grown (g:=gb101) (o:=.cells #[.int .i64 a1_0,.int .i64 a1_1,.string a1_2] 63 (0,0)) (q14_) hg (Kd.R_away HO105.out (fun _ hk=>hk.2)));have n1_:=Aside0.mk (Kd.R_after (ok:=(fun k_=>k_ ≠ gb101)) (by (with_reducible repeat (first | apply Kd.R_alloc | apply Kd.R_drewN | apply Kd.R_drew));exact Kd.R_mono HO115.out (fun _ hk=>⟨hk.1.2,hk.2⟩)) hg hat);have n2_:=Aside0.mk (hb);have n3_:=Aside0.mk (ho);clear BK101 HO115 HB HO105;have BK101:=n0_;have HO115:=n1_;have HB:=n2_;have HO112:=n3_;clear n0_ n1_ n2_ n3_ ho hb hg hat;refine hK.out _ _ ⟨(blk_cell BK101.out 0).trans rfl,(blk_cell BK101.out 1).trans rfl,(blk_cell BK101.out 2).trans rfl⟩ (fun hHeld=>?_);clear hK K;refine norm_ (a' := ?_) ?_ ?_;rotate_left
            ·show Act.put _ (some 26) _ = _;simp only [Act.put,List.setIfInBounds_toArray,List.set_cons_zero,List.set_cons_succ,i64_w,i32_w];rfl
            exact norm_ (by simp only [putAll,Act.put,List.setIfInBounds_toArray,List.set_cons_zero,List.set_cons_succ]) (hCont (v104,v111,v114) _ ⟨hHeld,(by (with_reducible repeat (first | apply Kd.R_alloc | apply Kd.R_drewN | apply Kd.R_drew));exact HO112.out),(by (with_reducible repeat (first | apply Kd.R_alloc | apply Kd.R_drewN | apply Kd.R_drew));exact Kd.R_mono HO115.out (fun _ hk=>⟨hk.2,hk.1⟩)),(q14_),(q22_)⟩)
          rintro ⟨v104,v111,v114⟩ w24 ⟨hS_,h0_,h1_,h2_,h3_⟩;have n0_ : Aside0 (Kd.R k63 63 w24 w.heap.size (fun k_=>some k_ ≠ (v114 : Value).ownBlock ∧ k_ ≠ gb101) v111 y110):=⟨h0_⟩;have n1_ : Aside0 (Kd.R k63 63 w24 w.heap.size (fun k_=>some k_ ≠ (v111 : Value).ownBlock ∧ k_ ≠ gb101) v114 y113):=⟨h1_⟩;have n2_ : Aside0 (w24.heap[gb101]? = some (.cells #[.int .i64 a1_0,.int .i64 a1_1,.string a1_2] 63 (0,0))):=⟨h2_⟩;have n3_ : Aside0 (Below w.heap.size w w24):=⟨h3_⟩;clear BK101 HB h0_ h1_ h2_ h3_;have HO112:=n0_;have HO115:=n1_;have BK101:=n2_;have HB:=n3_;clear n0_ n1_ n2_ n3_;have hHeld : w24.cell? ⟨gb101,0,none⟩ = some (.int .i64 a1_0) ∧ w24.cell? ⟨gb101,1,none⟩ = some (.int .i64 a1_1) ∧ w24.cell? ⟨gb101,2,none⟩ = some (.string a1_2):=hS_;obtain ⟨Ao26,co26,eo26⟩:=Kd.R_slice HO115.out
          (first | subst eo26 | (injection eo26 with f1_ f2_ f3_;have f4_:=f1_.symm;have f5_:=f3_.symm;clear f1_ f2_ f3_;subst f4_;subst f5_))
          refine norm_ (a' := ?_) ?_ ?_;rotate_left
          ·simp only [putAll,Act.put,List.setIfInBounds_toArray,List.set_cons_zero,List.set_cons_succ];rfl
          refine one_ (i:=7) (N:=some 29) #[true,true,true,true,true,true,true,true,true,true,true,false,false] rfl rfl (one_of HT_.out (by kernel_rfl)) (by decide) (fun K hK=>?_);refine Kd.R_append_rows_step k63 (w0:=w) w.heap.size (by rfl) (.tmp 26) (.tmp 28) 26 63 (.agg #[(.int .i64 0),(.int .i64 0),(.string ⟨#[]⟩)]) 32 rfl Try.underlying26 info63 rfl (by decide) (by omega) v111 y110 y113 _ _ _ (fun k_=>some k_ ≠ (.slice Ao26 y113.length co26 : Value).ownBlock ∧ k_ ≠ gb101) (fun _=>False) rfl rfl ?aO ?aR (fun _ _ h=>h) (fun _ h=>h.elim) ?aF ?aB ?aS ?aL ?_
          (case aR=>repeat (first | exact (Kd.R_reads' HO115.out).2.2 | (with_reducible refine Kd.C_alloc ?_ _) | (with_reducible refine Kd.C_drewN ?_ _) | (with_reducible refine Kd.C_drew ?_)))
          (case aB=>exact (q22_))
          (case aF=>exact (fun k_ hk=>⟨Kd.fresh' (Kd.R_lt (by (with_reducible repeat (first | apply Kd.R_alloc | apply Kd.R_drewN | apply Kd.R_drew));exact HO115.out)) k_ hk,Kd.freshB (g:=gb101) (o:=.cells #[.int .i64 a1_0,.int .i64 a1_1,.string a1_2] 63 (0,0)) (q14_) k_ hk⟩))
          (case aO=>exact (by (with_reducible repeat (first | apply Kd.R_alloc | apply Kd.R_drewN | apply Kd.R_drew));exact HO112.out))
          (case aS=>exact (below_size (q22_)))
          (case aL=>have:=LMc11.out;omega)
          intro v117 w25 ho hb hg hat;rw [← Ny116.out] at ho;have n0_:=Aside0.mk (blk_grown (g:=gb101) (o:=.cells #[.int .i64 a1_0,.int .i64 a1_1,.string a1_2] 63 (0,0)) (q14_) hg (Kd.R_away HO112.out (fun _ hk=>hk.2)));have n1_:=Aside0.mk (Kd.R_after (ok:=(fun k_=>k_ ≠ gb101)) (by (with_reducible repeat (first | apply Kd.R_alloc | apply Kd.R_drewN | apply Kd.R_drew));exact Kd.R_mono HO115.out (fun _ hk=>⟨hk.2,hk.1⟩)) hg hat);have n2_:=Aside0.mk (hb);have n3_:=Aside0.mk (ho);clear BK101 HO115 HB HO112;have BK101:=n0_;have HO115:=n1_;have HB:=n2_;have HO118:=n3_;clear n0_ n1_ n2_ n3_ ho hb hg hat;refine hK.out _ _ ⟨(blk_cell BK101.out 0).trans rfl,(blk_cell BK101.out 1).trans rfl,(blk_cell BK101.out 2).trans rfl⟩ (fun hHeld=>?_);clear hK K;refine norm_ (a' := ?_) ?_ ?_;rotate_left
          ·show Act.put _ (some 29) _ = _;simp only [Act.put,List.setIfInBounds_toArray,List.set_cons_zero,List.set_cons_succ,i64_w,i32_w];rfl
          refine one_ (i:=11) (N:=some 33) #[true,true,true,true,true,true,true,true,true,true,true,true,false] rfl rfl (one_of HT_.out (by kernel_rfl)) (by decide) (fun K hK=>?_);refine Kd.R_append_rows_step k63 (w0:=w) w.heap.size (by rfl) (.tmp 29) (.tmp 32) 26 63 (.agg #[(.int .i64 0),(.int .i64 0),(.string ⟨#[]⟩)]) 32 rfl Try.underlying26 info63 rfl (by decide) (by omega) v117 y116 y119 _ _ _ (fun k_=>some k_ ≠ (.slice Ao26 y113.length co26 : Value).ownBlock ∧ k_ ≠ gb101) (fun _=>False) rfl rfl ?aO ?aR (fun _ _ h=>h) (fun _ h=>h.elim) ?aF ?aB ?aS ?aL ?_
          (case aR=>repeat (first | exact (Kd.C_below HR122.out HB.out) | (with_reducible refine Kd.C_alloc ?_ _) | (with_reducible refine Kd.C_drewN ?_ _) | (with_reducible refine Kd.C_drew ?_)))
          (case aB=>exact (q22_))
          (case aF=>exact (fun k_ hk=>⟨Kd.fresh' (Kd.R_lt (by (with_reducible repeat (first | apply Kd.R_alloc | apply Kd.R_drewN | apply Kd.R_drew));exact HO115.out)) k_ hk,Kd.freshB (g:=gb101) (o:=.cells #[.int .i64 a1_0,.int .i64 a1_1,.string a1_2] 63 (0,0)) (q14_) k_ hk⟩))
          (case aO=>exact (by (with_reducible repeat (first | apply Kd.R_alloc | apply Kd.R_drewN | apply Kd.R_drew));exact HO118.out))
          (case aS=>exact (below_size (q22_)))
          (case aL=>have:=LMc14.out;omega)
          intro v124 w27 ho hb hg hat;rw [← Ny123.out] at ho;have n0_:=Aside0.mk (blk_grown (g:=gb101) (o:=.cells #[.int .i64 a1_0,.int .i64 a1_1,.string a1_2] 63 (0,0)) (q14_) hg (Kd.R_away HO118.out (fun _ hk=>hk.2)));have n1_:=Aside0.mk (Kd.R_after (ok:=(fun k_=>k_ ≠ gb101)) (by (with_reducible repeat (first | apply Kd.R_alloc | apply Kd.R_drewN | apply Kd.R_drew));exact HO115.out) hg hat);have n2_:=Aside0.mk (hb);have n3_:=Aside0.mk (ho);clear BK101 HO115 HB HO118;have BK101:=n0_;have HO115:=n1_;have HB:=n2_;have HO125:=n3_;clear n0_ n1_ n2_ n3_ ho hb hg hat;refine hK.out _ _ ⟨(blk_cell BK101.out 0).trans rfl,(blk_cell BK101.out 1).trans rfl,(blk_cell BK101.out 2).trans rfl⟩ (fun hHeld=>?_);clear hK K;refine norm_ (a' := ?_) ?_ ?_;rotate_left
          ·show Act.put _ (some 33) _ = _;simp only [Act.put,List.setIfInBounds_toArray,List.set_cons_zero,List.set_cons_succ,i64_w,i32_w];rfl
          refine pure_ (i:=12) (N:=some 4) (v:=?_) (a' := ?_) #[true,true,true,true,true,true,true,true,true,true,true,true,true] rfl rfl (any_of HT_.out (by kernel_rfl)) (fun _ _ _ h=>h) (Or.inl ⟨by rfl,?_⟩) ?_ ?_;rotate_left
          ·intro w';go_simp;with_reducible rfl
          rotate_left
          ·exact q36_
          refine done_ (done_of HT_.out (by kernel_rfl)) ?_;try go_wp2
          go_ret;exact ⟨_,q5_,by (with_reducible repeat (first | apply Kd.R_alloc | apply Kd.R_drewN | apply Kd.R_drew));exact Kd.R_mono HO125.out (fun _ hk=>trivial),q22_⟩
         ·rw [if_neg c14] at H;exact absurd H (by simp)
        ·rw [if_neg c11] at H;exact absurd H (by simp)
       ·rw [if_neg c10] at H;exact absurd H (by simp)
      ·rw [if_neg c9] at H;exact absurd H (by simp)
    ·rw [if_neg c5] at H;exact absurd H (by simp)
   ·rw [if_neg c4] at H;have c4b0 : decide (x5_1 < (l0.length : Int)) = false:=decide_eq_false c4;clear c4;obtain ⟨y126,hy126⟩ : ∃ y_ : List (S63),y_ = (([] : List (S63))):=⟨_,rfl⟩;replace H : (if 0 ≤ x5_1 then (if x5_1 ≤ (l0.length : Int) then ((some (l0.take (x5_1 : Int).toNat : List (S63))).bind fun y129=>(if y126.length + y129.length < 4398046511104 then ((some (y126 ++ y129 : List (S63))).bind fun y133=>((some (([(⟨a1_0,a1_1,a1_2⟩ : S63)] : List (S63)) : List (S63))).bind fun y136=>(if y133.length + y136.length < 4398046511104 then ((some (y133 ++ y136 : List (S63))).bind fun y139=>((some (l0.drop (x5_1 : Int).toNat : List (S63))).bind fun y142=>(if y139.length + y142.length < 4398046511104 then (some (y139 ++ y142)) else (none)))) else (none)))) else (none))) else (none)) else (none)) = some r:=by first | (rw [hy126];with_reducible exact H) | (have H2_:=(Option.bind_some _ _).symm.trans H;rw [hy126];with_reducible exact H2_) | (have H2_:=(Option.bind_some _ _).symm.trans H;with_reducible exact H2_) | with_reducible exact H | (rw [hy126];exact H) | exact H
    have Ny126:=Aside0.mk hy126;clear hy126;by_cases c28 : 0 ≤ x5_1
    ·rw [if_pos c28] at H;have c28b0:=eq_true c28;have c28b1 : decide (0 ≤ x5_1) = true:=decide_eq_true c28;clear c28;by_cases c29 : x5_1 ≤ (l0.length : Int)
     ·rw [if_pos c29] at H;have c29b0:=eq_true c29;have c29b1 : decide (x5_1 ≤ (l0.length : Int)) = true:=decide_eq_true c29;clear c29;obtain ⟨y129,hy129⟩ : ∃ y_ : List (S63),y_ = (l0.take (x5_1 : Int).toNat):=⟨_,rfl⟩;replace H : (if y126.length + y129.length < 4398046511104 then ((some (y126 ++ y129 : List (S63))).bind fun y133=>((some (([(⟨a1_0,a1_1,a1_2⟩ : S63)] : List (S63)) : List (S63))).bind fun y136=>(if y133.length + y136.length < 4398046511104 then ((some (y133 ++ y136 : List (S63))).bind fun y139=>((some (l0.drop (x5_1 : Int).toNat : List (S63))).bind fun y142=>(if y139.length + y142.length < 4398046511104 then (some (y139 ++ y142)) else (none)))) else (none)))) else (none)) = some r:=by first | (rw [hy129];with_reducible exact H) | (have H2_:=(Option.bind_some _ _).symm.trans H;rw [hy129];with_reducible exact H2_) | (have H2_:=(Option.bind_some _ _).symm.trans H;with_reducible exact H2_) | with_reducible exact H | (rw [hy129];exact H) | exact H
      have Ny129:=Aside0.mk hy129;clear hy129;by_cases c30 : y126.length + y129.length < 4398046511104
      ·rw [if_pos c30] at H;have LMc30:=Aside0.mk c30;clear c30;obtain ⟨y133,hy133⟩ : ∃ y_ : List (S63),y_ = (y126 ++ y129):=⟨_,rfl⟩;replace H : ((some (([(⟨a1_0,a1_1,a1_2⟩ : S63)] : List (S63)) : List (S63))).bind fun y136=>(if y133.length + y136.length < 4398046511104 then ((some (y133 ++ y136 : List (S63))).bind fun y139=>((some (l0.drop (x5_1 : Int).toNat : List (S63))).bind fun y142=>(if y139.length + y142.length < 4398046511104 then (some (y139 ++ y142)) else (none)))) else (none))) = some r:=by first | (rw [hy133];with_reducible exact H) | (have H2_:=(Option.bind_some _ _).symm.trans H;rw [hy133];with_reducible exact H2_) | (have H2_:=(Option.bind_some _ _).symm.trans H;with_reducible exact H2_) | with_reducible exact H | (rw [hy133];exact H) | exact H
       have Ny133:=Aside0.mk hy133;clear hy133;obtain ⟨y136,hy136⟩ : ∃ y_ : List (S63),y_ = (([(⟨a1_0,a1_1,a1_2⟩ : S63)] : List (S63))):=⟨_,rfl⟩;replace H : (if y133.length + y136.length < 4398046511104 then ((some (y133 ++ y136 : List (S63))).bind fun y139=>((some (l0.drop (x5_1 : Int).toNat : List (S63))).bind fun y142=>(if y139.length + y142.length < 4398046511104 then (some (y139 ++ y142)) else (none)))) else (none)) = some r:=by first | (rw [hy136];with_reducible exact H) | (have H2_:=(Option.bind_some _ _).symm.trans H;rw [hy136];with_reducible exact H2_) | (have H2_:=(Option.bind_some _ _).symm.trans H;with_reducible exact H2_) | with_reducible exact H | (rw [hy136];exact H) | exact H
       have Ny136:=Aside0.mk hy136;clear hy136;by_cases c31 : y133.length + y136.length < 4398046511104
       ·rw [if_pos c31] at H;have LMc31:=Aside0.mk c31;clear c31;obtain ⟨y139,hy139⟩ : ∃ y_ : List (S63),y_ = (y133 ++ y136):=⟨_,rfl⟩;replace H : ((some (l0.drop (x5_1 : Int).toNat : List (S63))).bind fun y142=>(if y139.length + y142.length < 4398046511104 then (some (y139 ++ y142)) else (none))) = some r:=by first | (rw [hy139];with_reducible exact H) | (have H2_:=(Option.bind_some _ _).symm.trans H;rw [hy139];with_reducible exact H2_) | (have H2_:=(Option.bind_some _ _).symm.trans H;with_reducible exact H2_) | with_reducible exact H | (rw [hy139];exact H) | exact H
        have Ny139:=Aside0.mk hy139;clear hy139;have c32b0:=eq_true (of_decide_eq_true (q3_) : 0 ≤ x5_1);have c33b0:=eq_true (of_decide_eq_true (q3_) : x5_1 ≤ (l0.length : Int));obtain ⟨y142,hy142⟩ : ∃ y_ : List (S63),y_ = (l0.drop (x5_1 : Int).toNat):=⟨_,rfl⟩;replace H : (if y139.length + y142.length < 4398046511104 then (some (y139 ++ y142)) else (none)) = some r:=by first | (rw [hy142];with_reducible exact H) | (have H2_:=(Option.bind_some _ _).symm.trans H;rw [hy142];with_reducible exact H2_) | (have H2_:=(Option.bind_some _ _).symm.trans H;with_reducible exact H2_) | with_reducible exact H | (rw [hy142];exact H) | exact H
        have Ny142:=Aside0.mk hy142;clear hy142;by_cases c34 : y139.length + y142.length < 4398046511104
        ·rw [if_pos c34] at H;have LMc34:=Aside0.mk c34;clear c34;obtain ⟨y146,hy146⟩ : ∃ y_ : List (S63),y_ = (y139 ++ y142):=⟨_,rfl⟩;replace H : (some y146) = some r:=by first | (rw [hy146];with_reducible exact H) | (have H2_:=(Option.bind_some _ _).symm.trans H;rw [hy146];with_reducible exact H2_) | (have H2_:=(Option.bind_some _ _).symm.trans H;with_reducible exact H2_) | with_reducible exact H | (rw [hy146];exact H) | exact H
         have Ny146:=Aside0.mk hy146;clear hy146;obtain rfl:=Option.some.inj H;try go_wp2
         have n0_:=Aside0.mk (blk_drew BK101.out);have n1_:=Aside0.mk (below_drew1 HB.out);clear BK101 HB;have BK101:=n0_;have HB:=n1_;clear n0_ n1_;refine start_ (n:=14) (S:=fun w' => True) (ds:=[]) #[false,false,false,false,false,false,false,false,false,false,false,false,false,false] (by kernel_rfl) rfl rfl trivial (fun hHeld=>?_);refine with_tabW spec_tiPut.tab2 spec_tiPut.bits2 (fun HT_ HW_=>?_);generalize wr.drew = w35 at BK101 HB hHeld ⊢;refine pure_ (i:=0) (N:=some 6) (v:=?_) (a' := ?_) #[true,false,false,false,false,false,false,false,false,false,false,false,false,false] rfl rfl (any_of HT_.out (by kernel_rfl)) (fun _ _ _ h=>h) (Or.inl ⟨by rfl,?_⟩) ?_ ?_;rotate_left
         ·intro w';go_simp;with_reducible rfl
         rotate_left
         ·exact q36_
         refine pure_ (i:=1) (N:=some 7) (v:=?_) (a' := ?_) #[true,true,false,false,false,false,false,false,false,false,false,false,false,false] rfl rfl (any_of HT_.out (by kernel_rfl)) (fun _ _ _ h=>h) (Or.inl ⟨by rfl,?_⟩) ?_ ?_;rotate_left
         ·intro w';go_simp;with_reducible rfl
         rotate_left
         ·exact q36_
         refine pure_ (i:=2) (N:=some 8) (v:=?_) (a' := ?_) #[true,true,true,false,false,false,false,false,false,false,false,false,false,false] rfl rfl (any_of HT_.out (by kernel_rfl)) (fun _ _ _ h=>h) (Or.inl ⟨by rfl,?_⟩) ?_ ?_;rotate_left
         ·intro w';go_simp;with_reducible rfl
         rotate_left
         ·exact q36_
         refine pure_ (i:=3) (N:=some 9) (v:=?_) (a' := ?_) #[true,true,true,true,false,false,false,false,false,false,false,false,false,false] rfl rfl (any_of HT_.out (by kernel_rfl)) (fun _ _ _ h=>h) (Or.inl ⟨by rfl,?_⟩) ?_ ?_;rotate_left
         ·intro w';go_simp;with_reducible rfl
         rotate_left
         ·exact q36_
         refine pure_ (i:=4) (N:=some 10) (v:=?_) (a' := ?_) #[true,true,true,true,true,false,false,false,false,false,false,false,false,false] rfl rfl (any_of HT_.out (by kernel_rfl)) (fun _ _ _ h=>h) (Or.inl ⟨by rfl,?_⟩) ?_ ?_;rotate_left
         ·intro w';go_simp;with_reducible rfl
         rotate_left
         ·exact q36_
         refine pure_ (i:=5) (N:=some 11) (v:=undef) (a' := ?_) #[true,true,true,true,true,true,false,false,false,false,false,false,false,false] rfl rfl (any_of HT_.out (by kernel_rfl)) (fun _ _ _ h=>h) (Or.inr ⟨by rfl,rfl⟩) ?_ ?_;rotate_left
         ·exact q36_
         refine pure_ (i:=6) (N:=some 12) (v:=undef) (a' := ?_) #[true,true,true,true,true,true,true,false,false,false,false,false,false,false] rfl rfl (any_of HT_.out (by kernel_rfl)) (fun _ _ _ h=>h) (Or.inr ⟨by rfl,rfl⟩) ?_ ?_;rotate_left
         ·exact q36_
         refine pure_ (i:=7) (N:=some 13) (v:=undef) (a' := ?_) #[true,true,true,true,true,true,true,true,false,false,false,false,false,false] rfl rfl (any_of HT_.out (by kernel_rfl)) (fun _ _ _ h=>h) (Or.inr ⟨by rfl,rfl⟩) ?_ ?_;rotate_left
         ·exact q36_
         refine pure_ (i:=8) (N:=some 14) (v:=undef) (a' := ?_) #[true,true,true,true,true,true,true,true,true,false,false,false,false,false] rfl rfl (any_of HT_.out (by kernel_rfl)) (fun _ _ _ h=>h) (Or.inr ⟨by rfl,rfl⟩) ?_ ?_;rotate_left
         ·exact q36_
         refine pure_ (i:=9) (N:=some 15) (v:=undef) (a' := ?_) #[true,true,true,true,true,true,true,true,true,true,false,false,false,false] rfl rfl (any_of HT_.out (by kernel_rfl)) (fun _ _ _ h=>h) (Or.inr ⟨by rfl,rfl⟩) ?_ ?_;rotate_left
         ·exact q36_
         refine pure_ (i:=10) (N:=some 16) (v:=undef) (a' := ?_) #[true,true,true,true,true,true,true,true,true,true,true,false,false,false] rfl rfl (any_of HT_.out (by kernel_rfl)) (fun _ _ _ h=>h) (Or.inr ⟨by rfl,rfl⟩) ?_ ?_;rotate_left
         ·exact q36_
         refine pure_ (i:=11) (N:=some 17) (v:=undef) (a' := ?_) #[true,true,true,true,true,true,true,true,true,true,true,true,false,false] rfl rfl (any_of HT_.out (by kernel_rfl)) (fun _ _ _ h=>h) (Or.inr ⟨by rfl,rfl⟩) ?_ ?_;rotate_left
         ·exact q36_
         refine pure_ (i:=12) (N:=some 18) (v:=undef) (a' := ?_) #[true,true,true,true,true,true,true,true,true,true,true,true,true,false] rfl rfl (any_of HT_.out (by kernel_rfl)) (fun _ _ _ h=>h) (Or.inr ⟨by rfl,rfl⟩) ?_ ?_;rotate_left
         ·exact q36_
         refine pure_ (i:=13) (N:=some 19) (v:=?_) (a' := ?_) #[true,true,true,true,true,true,true,true,true,true,true,true,true,true] rfl rfl (any_of HT_.out (by kernel_rfl)) (fun _ _ _ h=>h) (Or.inl ⟨by rfl,?_⟩) ?_ ?_;rotate_left
         ·intro w';go_simp;with_reducible rfl
         rotate_left
         ·exact q36_
         refine done_ (done_of HT_.out (by kernel_rfl)) ?_;try go_wp2
         have n0_:=Aside0.mk (blk_drew BK101.out);have n1_:=Aside0.mk (below_drew1 HB.out);clear BK101 HB;have BK101:=n0_;have HB:=n1_;clear n0_ n1_;have q37 : (x5_1 : Int) ≤ ((l0.length : Int) : Int):=of_decide_eq_true (q3_);obtain ⟨i037,hi037,_,hsz37,_⟩:=info_parts info63;have hroom37 : l0.length ≤ c0:=HC0.out;have hC37 : Kd.C k63 _ A0 l0.length l0:=HR0.out;have hcut37:=cut_to (P:=Try.prog) 26 63 .i64 Try.underlying26 hi037 A0 l0.length c0 x5_1 (of_decide_eq_true (q3_)) q37 hroom37;have hr37:=Kd.C_take (m:=(x5_1 : Int).toNat) hC37 (by omega);have hy37 : y129.length = (x5_1 : Int).toNat:=(by rw [Ny129.out,List.length_take];omega);rw [← Ny129.out] at hr37;rw [← hy37] at hcut37;have HR132:=Aside0.mk hr37;have HC132:=Aside0.mk (show y129.length ≤ c0 from by omega);clear hr37 hC37 hroom37 hi037 hsz37;have KY37:=Aside0.mk hy37;clear hy37;replace q37:=eq_true q37;have q38 : (x5_1 : Int) ≤ ((l0.length : Int) : Int):=of_decide_eq_true (q3_);obtain ⟨i038,hi038,_,hsz38,_⟩:=info_parts info63;have hroom38 : l0.length ≤ c0:=HC0.out;have hC38 : Kd.C k63 _ A0 l0.length l0:=HR0.out;have q038 : (0 : Int) ≤ (x5_1 : Int):=of_decide_eq_true (q3_);have hcut38:=cut_from (P:=Try.prog) 26 63 .i64 Try.underlying26 hi038 3 hsz38 A0 l0.length c0 x5_1 q038 q38;have hr38:=Kd.C_drop (m:=(x5_1 : Int).toNat) (c:=c0) hC38 (by omega) hroom38;obtain ⟨A38,hA38⟩ : ∃ A1,A1 = (if c0 = (x5_1 : Int).toNat then A0 else (A0 : Option Addr).map (·.add ((x5_1 : Int).toNat * 3))):=⟨_,rfl⟩;obtain ⟨c38,hc38⟩ : ∃ c1,c1 = c0 - (x5_1 : Int).toNat:=⟨_,rfl⟩;have hy38 : y142.length = l0.length - (x5_1 : Int).toNat:=(by rw [Ny142.out,List.length_drop] <;> omega);rw [show (l0).drop (x5_1 : Int).toNat = y142 from Ny142.out.symm] at hr38;replace hr38 : Kd.C k63 _ A38 y142.length y142:=(by rw [hA38];exact hr38);rw [← hy38,← hA38,← hc38] at hcut38;have HR145:=Aside0.mk hr38;have HC145:=Aside0.mk (show y142.length ≤ c38 from by rw [hy38,hc38];exact Nat.sub_le_sub_right hroom38 _);clear hr38 hC38 hroom38 hi038 hsz38 hc38;have KY38:=Aside0.mk hy38;have KA38:=Aside0.mk hA38;clear hy38 hA38;replace q38:=eq_true q38;refine start_ (n:=13) (S:=fun w' => w'.cell? ⟨gb101,0,none⟩ = some (.int .i64 a1_0) ∧ w'.cell? ⟨gb101,1,none⟩ = some (.int .i64 a1_1) ∧ w'.cell? ⟨gb101,2,none⟩ = some (.string a1_2)) (ds:=[]) #[false,false,false,false,false,false,false,false,false,false,false,false,false] (by kernel_rfl) rfl rfl ⟨(blk_cell BK101.out 0).trans rfl,(blk_cell BK101.out 1).trans rfl,(blk_cell BK101.out 2).trans rfl⟩ (fun hHeld=>?_);refine with_tabW spec_tiPut.tab4 spec_tiPut.bits4 (fun HT_ HW_=>?_);generalize w35.drew = w36 at BK101 HB HR132 HR145 hHeld ⊢;refine pure_ (i:=1) (N:=some 23) (v:=?_) (a' := ?_) #[false,true,false,false,false,false,false,false,false,false,false,false,false] rfl rfl (any_of HT_.out (by kernel_rfl)) (fun _ _ _ h=>h) (Or.inl ⟨by rfl,?_⟩) ?_ ?_;rotate_left
         ·intro w';go_simp;with_reducible rfl
         rotate_left
         ·exact q36_
         refine pure_ (i:=2) (N:=some 24) (v:=?_) (a' := ?_) #[false,true,true,false,false,false,false,false,false,false,false,false,false] rfl rfl (any_of HT_.out (by kernel_rfl)) (fun _ _ _ h=>h) (Or.inl ⟨by rfl,?_⟩) ?_ ?_;rotate_left
         ·intro w';go_simp;with_reducible rfl
         rotate_left
         ·exact q36_
         refine pure_ (i:=3) (N:=some 25) (v:=?_) (a' := ?_) #[false,true,true,true,false,false,false,false,false,false,false,false,false] rfl rfl (any_of HT_.out (by kernel_rfl)) (fun _ _ _ h=>h) (Or.inl ⟨by rfl,?_⟩) ?_ ?_;rotate_left
         ·intro w';go_simp;with_reducible rfl
         rotate_left
         ·exact q36_
         refine pure_ (i:=8) (N:=some 30) (v:=?_) (a' := ?_) #[false,true,true,true,false,false,false,false,true,false,false,false,false] rfl rfl (any_of HT_.out (by kernel_rfl)) (fun _ _ _ h=>h) (Or.inl ⟨by rfl,?_⟩) ?_ ?_;rotate_left
         ·intro w';go_simp;with_reducible rfl
         rotate_left
         ·exact q36_
         refine pure_ (i:=9) (N:=some 31) (v:=?_) (a' := ?_) #[false,true,true,true,false,false,false,false,true,true,false,false,false] rfl rfl (any_of HT_.out (by kernel_rfl)) (fun _ _ _ h=>h) (Or.inl ⟨by rfl,?_⟩) ?_ ?_;rotate_left
         ·intro w';go_simp;with_reducible rfl
         rotate_left
         ·exact q36_
         refine pure_ (i:=10) (N:=some 32) (v:=?_) (a' := ?_) #[false,true,true,true,false,false,false,false,true,true,true,false,false] rfl rfl (any_of HT_.out (by kernel_rfl)) (fun _ _ _ h=>h) (Or.inl ⟨by rfl,?_⟩) ?_ ?_;rotate_left
         ·intro w';go_simp;with_reducible rfl
         rotate_left
         ·exact q36_
         refine take_ (i:=5) (N:=some 27) (v:=?_) (a' := ?_) #[false,true,true,true,false,true,false,false,true,true,true,false,false] rfl rfl (take_ofW HT_.out HW_.out (by kernel_rfl)) (fun _ _ _ h=>h) (Or.inl ⟨by rfl,?_⟩) hHeld ?_ ?_;rotate_left
         ·rintro w' ⟨s0,s1,s2⟩;go_simp;with_reducible rfl
         rotate_left
         ·exact q36_
         refine join_ (σ:=Value × Value × Value) 3 #[true,true,true,true,true,true,true,false,true,true,true,false,false] (fun s_=>[(22,s_.1),(26,s_.2.1),(28,s_.2.2)]) (fun s_ w' => (w'.cell? ⟨gb101,0,none⟩ = some (.int .i64 a1_0) ∧ w'.cell? ⟨gb101,1,none⟩ = some (.int .i64 a1_1) ∧ w'.cell? ⟨gb101,2,none⟩ = some (.string a1_2)) ∧ (Kd.R k63 63 w' w.heap.size (fun k_=>some k_ ≠ (s_.2.2 : Value).ownBlock ∧ k_ ≠ gb101) s_.2.1 y133) ∧ (Kd.R k63 63 w' w.heap.size (fun k_=>some k_ ≠ (s_.2.1 : Value).ownBlock ∧ k_ ≠ gb101) s_.2.2 y136) ∧ (w'.heap[gb101]? = some (.cells #[.int .i64 a1_0,.int .i64 a1_1,.string a1_2] 63 (0,0))) ∧ (Below w.heap.size w w')) ?_ ?_;rotate_left
         ·intro hCont;refine two_ (i:=0) (j:=6) (Ni:=some 22) (Nj:=some 28) #[true,true,true,true,false,true,false,false,true,true,true,false,false] #[false,true,true,true,false,true,true,false,true,true,true,false,false] rfl rfl rfl rfl (two_of HT_.out (by kernel_rfl)) (by decide) (by decide) (fun K hK=>?_) (fun K hK=>?_)
          ·skip
           refine Kd.R_lit_step k63 _ 63 ?hg (N:=22) ?hd (xs:=([] : List (S63))) (inner:=[]) (ok:=fun _=>True) (okp:=fun _=>True) ?hr ?hp (fun _ hk=>hk) trivial (Below.refl _ _) (Nat.le_refl _) (by simp) ?_;(case hd=>rfl);(case hg=>rfl);(case hr=>first | (go_simp;done) | (go_simp;rfl));(case hp=>exact (Reps.none _ _));intro v127 w39 ho40 hb hg_ hnew_;clear hg_ hnew_
           (first | rw [← Ny126.out] at ho40 | (simp only [Int.reduceToNat] at ho40;rw [← Ny126.out] at ho40))
           have n0_:=Aside0.mk (Kd.R_lower (Kd.R_newB ho40 (g:=gb101) (o:=.cells #[.int .i64 a1_0,.int .i64 a1_1,.string a1_2] 63 (0,0)) (q14_)) (below_size (q22_)));have n1_:=Aside0.mk (blk_below (g:=gb101) (o:=.cells #[.int .i64 a1_0,.int .i64 a1_1,.string a1_2] 63 (0,0)) (q14_) hb);have n2_:=Aside0.mk (below_step (q22_) hb);clear BK101 HB;have HO128:=n0_;have BK101:=n1_;have HB:=n2_;clear n0_ n1_ n2_ hb ho40;refine hK.out _ _ ⟨(blk_cell BK101.out 0).trans rfl,(blk_cell BK101.out 1).trans rfl,(blk_cell BK101.out 2).trans rfl⟩ (fun hHeld=>?_);clear hK K;refine norm_ (a' := ?_) ?_ ?_;rotate_left
           ·show Act.put _ (some 22) _ = _;simp only [Act.put,List.setIfInBounds_toArray,List.set_cons_zero,List.set_cons_succ,i64_w,i32_w];rfl
           refine two_ (i:=4) (j:=6) (Ni:=some 26) (Nj:=some 28) #[true,true,true,true,true,true,false,false,true,true,true,false,false] #[true,true,true,true,false,true,true,false,true,true,true,false,false] rfl rfl rfl rfl (two_of HT_.out (by kernel_rfl)) (by decide) (by decide) (fun K hK=>?_) (fun K hK=>?_)
           ·skip
            refine Kd.R_append_rows_step k63 (w0:=w) w.heap.size (by rfl) (.tmp 22) (.tmp 25) 26 63 (.agg #[(.int .i64 0),(.int .i64 0),(.string ⟨#[]⟩)]) 32 rfl Try.underlying26 info63 rfl (by decide) (by omega) v127 y126 y129 _ _ _ (fun k_=>k_ ≠ gb101) (fun _=>False) rfl rfl ?aO ?aR (fun _ _ h=>h) (fun _ h=>h.elim) ?aF ?aB ?aS ?aL ?_
            (case aR=>repeat (first | exact (Kd.C_below HR132.out HB.out) | (with_reducible refine Kd.C_alloc ?_ _) | (with_reducible refine Kd.C_drewN ?_ _) | (with_reducible refine Kd.C_drew ?_)))
            (case aB=>exact (q22_))
            (case aF=>exact (fun k_ hk=>Kd.freshB (g:=gb101) (o:=.cells #[.int .i64 a1_0,.int .i64 a1_1,.string a1_2] 63 (0,0)) (q14_) k_ hk))
            (case aO=>exact (by (with_reducible repeat (first | apply Kd.R_alloc | apply Kd.R_drewN | apply Kd.R_drew));exact Kd.R_mono HO128.out (fun _ hk=>hk.2)))
            (case aS=>exact (below_size (q22_)))
            (case aL=>have:=LMc30.out;omega)
            intro v134 w41 ho hb hg hat;rw [← Ny133.out] at ho;have n0_:=Aside0.mk (blk_grown (g:=gb101) (o:=.cells #[.int .i64 a1_0,.int .i64 a1_1,.string a1_2] 63 (0,0)) (q14_) hg (Kd.R_away HO128.out (fun _ hk=>hk.2)));have n1_:=Aside0.mk (hb);have n2_:=Aside0.mk (ho);clear BK101 HB HO128;have BK101:=n0_;have HB:=n1_;have HO135:=n2_;clear n0_ n1_ n2_ ho hb hg hat;refine hK.out _ _ ⟨(blk_cell BK101.out 0).trans rfl,(blk_cell BK101.out 1).trans rfl,(blk_cell BK101.out 2).trans rfl⟩ (fun hHeld=>?_);clear hK K;refine norm_ (a' := ?_) ?_ ?_;rotate_left
            ·show Act.put _ (some 26) _ = _;simp only [Act.put,List.setIfInBounds_toArray,List.set_cons_zero,List.set_cons_succ,i64_w,i32_w];rfl
            refine one_ (i:=6) (N:=some 28) #[true,true,true,true,true,true,true,false,true,true,true,false,false] rfl rfl (one_of HT_.out (by kernel_rfl)) (by decide) (fun K hK=>?_);refine Kd.R_lit_step k63 _ 63 ?hg (N:=28) ?hd (xs:=([(⟨a1_0,a1_1,a1_2⟩ : S63)] : List (S63))) (inner:=[.int .i64 a1_0,.int .i64 a1_1,.string a1_2]) (ok:=fun _=>True) (okp:=fun _=>True) ?hr ?hp (fun _ hk=>hk) trivial (Below.refl _ _) (Nat.le_refl _) (by simp) ?_;(case hd=>rfl);(case hg=>rfl);(case hr=>first | (go_simp;done) | (go_simp;rfl));(case hp=>exact (Reps.c3 (show Kd.M k63 _ _ _ (⟨a1_0,a1_1,a1_2⟩ : S63) [.int .i64 a1_0,.int .i64 a1_1,.string a1_2] from (k63_mkM _ _ _ (⟨a1_0,a1_1,a1_2⟩ : S63) )) (Reps.none _ _)));intro v137 w42 ho43 hb hg_ hnew_;clear hg_ hnew_
            (first | rw [← Ny136.out] at ho43 | (simp only [Int.reduceToNat] at ho43;rw [← Ny136.out] at ho43))
            have n0_:=Aside0.mk (Kd.R_elder' (by (with_reducible repeat (first | apply Kd.R_alloc | apply Kd.R_drewN | apply Kd.R_drew));exact HO135.out) (Kd.R_base ho43) hb);have n1_:=Aside0.mk (Kd.R_lower (Kd.R_newB (Kd.R_new' ho43 (Kd.R_lt (by (with_reducible repeat (first | apply Kd.R_alloc | apply Kd.R_drewN | apply Kd.R_drew));exact HO135.out))) (g:=gb101) (o:=.cells #[.int .i64 a1_0,.int .i64 a1_1,.string a1_2] 63 (0,0)) (q14_)) (below_size (q22_)));have n2_:=Aside0.mk (blk_below (g:=gb101) (o:=.cells #[.int .i64 a1_0,.int .i64 a1_1,.string a1_2] 63 (0,0)) (q14_) hb);have n3_:=Aside0.mk (below_step (q22_) hb);clear HO135 BK101 HB;have HO135:=n0_;have HO138:=n1_;have BK101:=n2_;have HB:=n3_;clear n0_ n1_ n2_ n3_ hb ho43;refine hK.out _ _ ⟨(blk_cell BK101.out 0).trans rfl,(blk_cell BK101.out 1).trans rfl,(blk_cell BK101.out 2).trans rfl⟩ (fun hHeld=>?_);clear hK K;refine norm_ (a' := ?_) ?_ ?_;rotate_left
            ·show Act.put _ (some 28) _ = _;simp only [Act.put,List.setIfInBounds_toArray,List.set_cons_zero,List.set_cons_succ,i64_w,i32_w];rfl
            exact norm_ (by simp only [putAll,Act.put,List.setIfInBounds_toArray,List.set_cons_zero,List.set_cons_succ]) (hCont (v127,v134,v137) _ ⟨hHeld,(by (with_reducible repeat (first | apply Kd.R_alloc | apply Kd.R_drewN | apply Kd.R_drew));exact Kd.R_mono HO135.out (fun _ hk=>⟨hk.2,hk.1⟩)),(by (with_reducible repeat (first | apply Kd.R_alloc | apply Kd.R_drewN | apply Kd.R_drew));exact Kd.R_mono HO138.out (fun _ hk=>⟨hk.1.2,hk.2⟩)),(q14_),(q22_)⟩)
           ·skip
            refine Kd.R_lit_step k63 _ 63 ?hg (N:=28) ?hd (xs:=([(⟨a1_0,a1_1,a1_2⟩ : S63)] : List (S63))) (inner:=[.int .i64 a1_0,.int .i64 a1_1,.string a1_2]) (ok:=fun _=>True) (okp:=fun _=>True) ?hr ?hp (fun _ hk=>hk) trivial (Below.refl _ _) (Nat.le_refl _) (by simp) ?_;(case hd=>rfl);(case hg=>rfl);(case hr=>first | (go_simp;done) | (go_simp;rfl));(case hp=>exact (Reps.c3 (show Kd.M k63 _ _ _ (⟨a1_0,a1_1,a1_2⟩ : S63) [.int .i64 a1_0,.int .i64 a1_1,.string a1_2] from (k63_mkM _ _ _ (⟨a1_0,a1_1,a1_2⟩ : S63) )) (Reps.none _ _)));intro v137 w41 ho42 hb hg_ hnew_;clear hg_ hnew_
            (first | rw [← Ny136.out] at ho42 | (simp only [Int.reduceToNat] at ho42;rw [← Ny136.out] at ho42))
            have n0_:=Aside0.mk (Kd.R_elder' (by (with_reducible repeat (first | apply Kd.R_alloc | apply Kd.R_drewN | apply Kd.R_drew));exact HO128.out) (Kd.R_base ho42) hb);have n1_:=Aside0.mk (Kd.R_lower (Kd.R_newB (Kd.R_new' ho42 (Kd.R_lt (by (with_reducible repeat (first | apply Kd.R_alloc | apply Kd.R_drewN | apply Kd.R_drew));exact HO128.out))) (g:=gb101) (o:=.cells #[.int .i64 a1_0,.int .i64 a1_1,.string a1_2] 63 (0,0)) (q14_)) (below_size (q22_)));have n2_:=Aside0.mk (blk_below (g:=gb101) (o:=.cells #[.int .i64 a1_0,.int .i64 a1_1,.string a1_2] 63 (0,0)) (q14_) hb);have n3_:=Aside0.mk (below_step (q22_) hb);clear HO128 BK101 HB;have HO128:=n0_;have HO138:=n1_;have BK101:=n2_;have HB:=n3_;clear n0_ n1_ n2_ n3_ hb ho42;refine hK.out _ _ ⟨(blk_cell BK101.out 0).trans rfl,(blk_cell BK101.out 1).trans rfl,(blk_cell BK101.out 2).trans rfl⟩ (fun hHeld=>?_);clear hK K;refine norm_ (a' := ?_) ?_ ?_;rotate_left
            ·show Act.put _ (some 28) _ = _;simp only [Act.put,List.setIfInBounds_toArray,List.set_cons_zero,List.set_cons_succ,i64_w,i32_w];rfl
            refine one_ (i:=4) (N:=some 26) #[true,true,true,true,true,true,true,false,true,true,true,false,false] rfl rfl (one_of HT_.out (by kernel_rfl)) (by decide) (fun K hK=>?_);refine Kd.R_append_rows_step k63 (w0:=w) w.heap.size (by rfl) (.tmp 22) (.tmp 25) 26 63 (.agg #[(.int .i64 0),(.int .i64 0),(.string ⟨#[]⟩)]) 32 rfl Try.underlying26 info63 rfl (by decide) (by omega) v127 y126 y129 _ _ _ (fun k_=>some k_ ≠ (v137 : Value).ownBlock ∧ k_ ≠ gb101) (fun _=>False) rfl rfl ?aO ?aR (fun _ _ h=>h) (fun _ h=>h.elim) ?aF ?aB ?aS ?aL ?_
            (case aR=>repeat (first | exact (Kd.C_below HR132.out HB.out) | (with_reducible refine Kd.C_alloc ?_ _) | (with_reducible refine Kd.C_drewN ?_ _) | (with_reducible refine Kd.C_drew ?_)))
            (case aB=>exact (q22_))
            (case aF=>exact (fun k_ hk=>⟨Kd.fresh' (Kd.R_lt (by (with_reducible repeat (first | apply Kd.R_alloc | apply Kd.R_drewN | apply Kd.R_drew));exact HO138.out)) k_ hk,Kd.freshB (g:=gb101) (o:=.cells #[.int .i64 a1_0,.int .i64 a1_1,.string a1_2] 63 (0,0)) (q14_) k_ hk⟩))
            (case aO=>exact (by (with_reducible repeat (first | apply Kd.R_alloc | apply Kd.R_drewN | apply Kd.R_drew));exact Kd.R_mono HO128.out (fun _ hk=>⟨hk.2,hk.1.2⟩)))
            (case aS=>exact (below_size (q22_)))
            (case aL=>have:=LMc30.out;omega)
            intro v134 w43 ho hb hg hat;rw [← Ny133.out] at ho;have n0_:=Aside0.mk (blk_grown (g:=gb101) (o:=.cells #[.int .i64 a1_0,.int .i64 a1_1,.string a1_2] 63 (0,0)) (q14_) hg (Kd.R_away HO128.out (fun _ hk=>hk.1.2)));have n1_:=Aside0.mk (Kd.R_after (ok:=(fun k_=>k_ ≠ gb101)) (by (with_reducible repeat (first | apply Kd.R_alloc | apply Kd.R_drewN | apply Kd.R_drew));exact Kd.R_mono HO138.out (fun _ hk=>⟨hk.2,hk.1.2⟩)) hg hat);have n2_:=Aside0.mk (hb);have n3_:=Aside0.mk (ho);clear BK101 HO138 HB HO128;have BK101:=n0_;have HO138:=n1_;have HB:=n2_;have HO135:=n3_;clear n0_ n1_ n2_ n3_ ho hb hg hat;refine hK.out _ _ ⟨(blk_cell BK101.out 0).trans rfl,(blk_cell BK101.out 1).trans rfl,(blk_cell BK101.out 2).trans rfl⟩ (fun hHeld=>?_);clear hK K;refine norm_ (a' := ?_) ?_ ?_;rotate_left
            ·show Act.put _ (some 26) _ = _;simp only [Act.put,List.setIfInBounds_toArray,List.set_cons_zero,List.set_cons_succ,i64_w,i32_w];rfl
            exact norm_ (by simp only [putAll,Act.put,List.setIfInBounds_toArray,List.set_cons_zero,List.set_cons_succ]) (hCont (v127,v134,v137) _ ⟨hHeld,(by (with_reducible repeat (first | apply Kd.R_alloc | apply Kd.R_drewN | apply Kd.R_drew));exact HO135.out),(by (with_reducible repeat (first | apply Kd.R_alloc | apply Kd.R_drewN | apply Kd.R_drew));exact Kd.R_mono HO138.out (fun _ hk=>⟨hk.2,hk.1⟩)),(q14_),(q22_)⟩)
          ·skip
           refine Kd.R_lit_step k63 _ 63 ?hg (N:=28) ?hd (xs:=([(⟨a1_0,a1_1,a1_2⟩ : S63)] : List (S63))) (inner:=[.int .i64 a1_0,.int .i64 a1_1,.string a1_2]) (ok:=fun _=>True) (okp:=fun _=>True) ?hr ?hp (fun _ hk=>hk) trivial (Below.refl _ _) (Nat.le_refl _) (by simp) ?_;(case hd=>rfl);(case hg=>rfl);(case hr=>first | (go_simp;done) | (go_simp;rfl));(case hp=>exact (Reps.c3 (show Kd.M k63 _ _ _ (⟨a1_0,a1_1,a1_2⟩ : S63) [.int .i64 a1_0,.int .i64 a1_1,.string a1_2] from (k63_mkM _ _ _ (⟨a1_0,a1_1,a1_2⟩ : S63) )) (Reps.none _ _)));intro v137 w39 ho40 hb hg_ hnew_;clear hg_ hnew_
           (first | rw [← Ny136.out] at ho40 | (simp only [Int.reduceToNat] at ho40;rw [← Ny136.out] at ho40))
           have n0_:=Aside0.mk (Kd.R_lower (Kd.R_newB ho40 (g:=gb101) (o:=.cells #[.int .i64 a1_0,.int .i64 a1_1,.string a1_2] 63 (0,0)) (q14_)) (below_size (q22_)));have n1_:=Aside0.mk (blk_below (g:=gb101) (o:=.cells #[.int .i64 a1_0,.int .i64 a1_1,.string a1_2] 63 (0,0)) (q14_) hb);have n2_:=Aside0.mk (below_step (q22_) hb);clear BK101 HB;have HO138:=n0_;have BK101:=n1_;have HB:=n2_;clear n0_ n1_ n2_ hb ho40;refine hK.out _ _ ⟨(blk_cell BK101.out 0).trans rfl,(blk_cell BK101.out 1).trans rfl,(blk_cell BK101.out 2).trans rfl⟩ (fun hHeld=>?_);clear hK K;refine norm_ (a' := ?_) ?_ ?_;rotate_left
           ·show Act.put _ (some 28) _ = _;simp only [Act.put,List.setIfInBounds_toArray,List.set_cons_zero,List.set_cons_succ,i64_w,i32_w];rfl
           refine one_ (i:=0) (N:=some 22) #[true,true,true,true,false,true,true,false,true,true,true,false,false] rfl rfl (one_of HT_.out (by kernel_rfl)) (by decide) (fun K hK=>?_);refine Kd.R_lit_step k63 _ 63 ?hg (N:=22) ?hd (xs:=([] : List (S63))) (inner:=[]) (ok:=fun _=>True) (okp:=fun _=>True) ?hr ?hp (fun _ hk=>hk) trivial (Below.refl _ _) (Nat.le_refl _) (by simp) ?_;(case hd=>rfl);(case hg=>rfl);(case hr=>first | (go_simp;done) | (go_simp;rfl));(case hp=>exact (Reps.none _ _));intro v127 w41 ho42 hb hg_ hnew_;clear hg_ hnew_
           (first | rw [← Ny126.out] at ho42 | (simp only [Int.reduceToNat] at ho42;rw [← Ny126.out] at ho42))
           have n0_:=Aside0.mk (Kd.R_elder' (by (with_reducible repeat (first | apply Kd.R_alloc | apply Kd.R_drewN | apply Kd.R_drew));exact HO138.out) (Kd.R_base ho42) hb);have n1_:=Aside0.mk (Kd.R_lower (Kd.R_newB (Kd.R_new' ho42 (Kd.R_lt (by (with_reducible repeat (first | apply Kd.R_alloc | apply Kd.R_drewN | apply Kd.R_drew));exact HO138.out))) (g:=gb101) (o:=.cells #[.int .i64 a1_0,.int .i64 a1_1,.string a1_2] 63 (0,0)) (q14_)) (below_size (q22_)));have n2_:=Aside0.mk (blk_below (g:=gb101) (o:=.cells #[.int .i64 a1_0,.int .i64 a1_1,.string a1_2] 63 (0,0)) (q14_) hb);have n3_:=Aside0.mk (below_step (q22_) hb);clear HO138 BK101 HB;have HO138:=n0_;have HO128:=n1_;have BK101:=n2_;have HB:=n3_;clear n0_ n1_ n2_ n3_ hb ho42;refine hK.out _ _ ⟨(blk_cell BK101.out 0).trans rfl,(blk_cell BK101.out 1).trans rfl,(blk_cell BK101.out 2).trans rfl⟩ (fun hHeld=>?_);clear hK K;refine norm_ (a' := ?_) ?_ ?_;rotate_left
           ·show Act.put _ (some 22) _ = _;simp only [Act.put,List.setIfInBounds_toArray,List.set_cons_zero,List.set_cons_succ,i64_w,i32_w];rfl
           refine one_ (i:=4) (N:=some 26) #[true,true,true,true,true,true,true,false,true,true,true,false,false] rfl rfl (one_of HT_.out (by kernel_rfl)) (by decide) (fun K hK=>?_);refine Kd.R_append_rows_step k63 (w0:=w) w.heap.size (by rfl) (.tmp 22) (.tmp 25) 26 63 (.agg #[(.int .i64 0),(.int .i64 0),(.string ⟨#[]⟩)]) 32 rfl Try.underlying26 info63 rfl (by decide) (by omega) v127 y126 y129 _ _ _ (fun k_=>some k_ ≠ (v137 : Value).ownBlock ∧ k_ ≠ gb101) (fun _=>False) rfl rfl ?aO ?aR (fun _ _ h=>h) (fun _ h=>h.elim) ?aF ?aB ?aS ?aL ?_
           (case aR=>repeat (first | exact (Kd.C_below HR132.out HB.out) | (with_reducible refine Kd.C_alloc ?_ _) | (with_reducible refine Kd.C_drewN ?_ _) | (with_reducible refine Kd.C_drew ?_)))
           (case aB=>exact (q22_))
           (case aF=>exact (fun k_ hk=>⟨Kd.fresh' (Kd.R_lt (by (with_reducible repeat (first | apply Kd.R_alloc | apply Kd.R_drewN | apply Kd.R_drew));exact HO138.out)) k_ hk,Kd.freshB (g:=gb101) (o:=.cells #[.int .i64 a1_0,.int .i64 a1_1,.string a1_2] 63 (0,0)) (q14_) k_ hk⟩))
           (case aO=>exact (by (with_reducible repeat (first | apply Kd.R_alloc | apply Kd.R_drewN | apply Kd.R_drew));exact Kd.R_mono HO128.out (fun _ hk=>⟨hk.1.2,hk.2⟩)))
           (case aS=>exact (below_size (q22_)))
           (case aL=>have:=LMc30.out;omega)
           intro v134 w43 ho hb hg hat;rw [← Ny133.out] at ho;have n0_:=Aside0.mk (blk_grown (g:=gb101) (o:=.cells #[.int .i64 a1_0,.int .i64 a1_1,.string a1_2] 63 (0,0)) (q14_) hg (Kd.R_away HO128.out (fun _ hk=>hk.2)));have n1_:=Aside0.mk (Kd.R_after (ok:=(fun k_=>k_ ≠ gb101)) (by (with_reducible repeat (first | apply Kd.R_alloc | apply Kd.R_drewN | apply Kd.R_drew));exact Kd.R_mono HO138.out (fun _ hk=>⟨hk.1.2,hk.2⟩)) hg hat);have n2_:=Aside0.mk (hb);have n3_:=Aside0.mk (ho);clear BK101 HO138 HB HO128;have BK101:=n0_;have HO138:=n1_;have HB:=n2_;have HO135:=n3_;clear n0_ n1_ n2_ n3_ ho hb hg hat;refine hK.out _ _ ⟨(blk_cell BK101.out 0).trans rfl,(blk_cell BK101.out 1).trans rfl,(blk_cell BK101.out 2).trans rfl⟩ (fun hHeld=>?_);clear hK K;refine norm_ (a' := ?_) ?_ ?_;rotate_left
           ·show Act.put _ (some 26) _ = _;simp only [Act.put,List.setIfInBounds_toArray,List.set_cons_zero,List.set_cons_succ,i64_w,i32_w];rfl
           exact norm_ (by simp only [putAll,Act.put,List.setIfInBounds_toArray,List.set_cons_zero,List.set_cons_succ]) (hCont (v127,v134,v137) _ ⟨hHeld,(by (with_reducible repeat (first | apply Kd.R_alloc | apply Kd.R_drewN | apply Kd.R_drew));exact HO135.out),(by (with_reducible repeat (first | apply Kd.R_alloc | apply Kd.R_drewN | apply Kd.R_drew));exact Kd.R_mono HO138.out (fun _ hk=>⟨hk.2,hk.1⟩)),(q14_),(q22_)⟩)
         rintro ⟨v127,v134,v137⟩ w44 ⟨hS_,h0_,h1_,h2_,h3_⟩;have n0_ : Aside0 (Kd.R k63 63 w44 w.heap.size (fun k_=>some k_ ≠ (v137 : Value).ownBlock ∧ k_ ≠ gb101) v134 y133):=⟨h0_⟩;have n1_ : Aside0 (Kd.R k63 63 w44 w.heap.size (fun k_=>some k_ ≠ (v134 : Value).ownBlock ∧ k_ ≠ gb101) v137 y136):=⟨h1_⟩;have n2_ : Aside0 (w44.heap[gb101]? = some (.cells #[.int .i64 a1_0,.int .i64 a1_1,.string a1_2] 63 (0,0))):=⟨h2_⟩;have n3_ : Aside0 (Below w.heap.size w w44):=⟨h3_⟩;clear BK101 HB h0_ h1_ h2_ h3_;have HO135:=n0_;have HO138:=n1_;have BK101:=n2_;have HB:=n3_;clear n0_ n1_ n2_ n3_;have hHeld : w44.cell? ⟨gb101,0,none⟩ = some (.int .i64 a1_0) ∧ w44.cell? ⟨gb101,1,none⟩ = some (.int .i64 a1_1) ∧ w44.cell? ⟨gb101,2,none⟩ = some (.string a1_2):=hS_;obtain ⟨Ao46,co46,eo46⟩:=Kd.R_slice HO138.out
         (first | subst eo46 | (injection eo46 with f1_ f2_ f3_;have f4_:=f1_.symm;have f5_:=f3_.symm;clear f1_ f2_ f3_;subst f4_;subst f5_))
         refine norm_ (a' := ?_) ?_ ?_;rotate_left
         ·simp only [putAll,Act.put,List.setIfInBounds_toArray,List.set_cons_zero,List.set_cons_succ];rfl
         refine one_ (i:=7) (N:=some 29) #[true,true,true,true,true,true,true,true,true,true,true,false,false] rfl rfl (one_of HT_.out (by kernel_rfl)) (by decide) (fun K hK=>?_);refine Kd.R_append_rows_step k63 (w0:=w) w.heap.size (by rfl) (.tmp 26) (.tmp 28) 26 63 (.agg #[(.int .i64 0),(.int .i64 0),(.string ⟨#[]⟩)]) 32 rfl Try.underlying26 info63 rfl (by decide) (by omega) v134 y133 y136 _ _ _ (fun k_=>some k_ ≠ (.slice Ao46 y136.length co46 : Value).ownBlock ∧ k_ ≠ gb101) (fun _=>False) rfl rfl ?aO ?aR (fun _ _ h=>h) (fun _ h=>h.elim) ?aF ?aB ?aS ?aL ?_
         (case aR=>repeat (first | exact (Kd.R_reads' HO138.out).2.2 | (with_reducible refine Kd.C_alloc ?_ _) | (with_reducible refine Kd.C_drewN ?_ _) | (with_reducible refine Kd.C_drew ?_)))
         (case aB=>exact (q22_))
         (case aF=>exact (fun k_ hk=>⟨Kd.fresh' (Kd.R_lt (by (with_reducible repeat (first | apply Kd.R_alloc | apply Kd.R_drewN | apply Kd.R_drew));exact HO138.out)) k_ hk,Kd.freshB (g:=gb101) (o:=.cells #[.int .i64 a1_0,.int .i64 a1_1,.string a1_2] 63 (0,0)) (q14_) k_ hk⟩))
         (case aO=>exact (by (with_reducible repeat (first | apply Kd.R_alloc | apply Kd.R_drewN | apply Kd.R_drew));exact HO135.out))
         (case aS=>exact (below_size (q22_)))
         (case aL=>have:=LMc31.out;omega)
         intro v140 w45 ho hb hg hat;rw [← Ny139.out] at ho;have n0_:=Aside0.mk (blk_grown (g:=gb101) (o:=.cells #[.int .i64 a1_0,.int .i64 a1_1,.string a1_2] 63 (0,0)) (q14_) hg (Kd.R_away HO135.out (fun _ hk=>hk.2)));have n1_:=Aside0.mk (Kd.R_after (ok:=(fun k_=>k_ ≠ gb101)) (by (with_reducible repeat (first | apply Kd.R_alloc | apply Kd.R_drewN | apply Kd.R_drew));exact Kd.R_mono HO138.out (fun _ hk=>⟨hk.2,hk.1⟩)) hg hat);have n2_:=Aside0.mk (hb);have n3_:=Aside0.mk (ho);clear BK101 HO138 HB HO135;have BK101:=n0_;have HO138:=n1_;have HB:=n2_;have HO141:=n3_;clear n0_ n1_ n2_ n3_ ho hb hg hat;refine hK.out _ _ ⟨(blk_cell BK101.out 0).trans rfl,(blk_cell BK101.out 1).trans rfl,(blk_cell BK101.out 2).trans rfl⟩ (fun hHeld=>?_);clear hK K;refine norm_ (a' := ?_) ?_ ?_;rotate_left
         ·show Act.put _ (some 29) _ = _;simp only [Act.put,List.setIfInBounds_toArray,List.set_cons_zero,List.set_cons_succ,i64_w,i32_w];rfl
         refine one_ (i:=11) (N:=some 33) #[true,true,true,true,true,true,true,true,true,true,true,true,false] rfl rfl (one_of HT_.out (by kernel_rfl)) (by decide) (fun K hK=>?_);refine Kd.R_append_rows_step k63 (w0:=w) w.heap.size (by rfl) (.tmp 29) (.tmp 32) 26 63 (.agg #[(.int .i64 0),(.int .i64 0),(.string ⟨#[]⟩)]) 32 rfl Try.underlying26 info63 rfl (by decide) (by omega) v140 y139 y142 _ _ _ (fun k_=>some k_ ≠ (.slice Ao46 y136.length co46 : Value).ownBlock ∧ k_ ≠ gb101) (fun _=>False) rfl rfl ?aO ?aR (fun _ _ h=>h) (fun _ h=>h.elim) ?aF ?aB ?aS ?aL ?_
         (case aR=>repeat (first | exact (Kd.C_below HR145.out HB.out) | (with_reducible refine Kd.C_alloc ?_ _) | (with_reducible refine Kd.C_drewN ?_ _) | (with_reducible refine Kd.C_drew ?_)))
         (case aB=>exact (q22_))
         (case aF=>exact (fun k_ hk=>⟨Kd.fresh' (Kd.R_lt (by (with_reducible repeat (first | apply Kd.R_alloc | apply Kd.R_drewN | apply Kd.R_drew));exact HO138.out)) k_ hk,Kd.freshB (g:=gb101) (o:=.cells #[.int .i64 a1_0,.int .i64 a1_1,.string a1_2] 63 (0,0)) (q14_) k_ hk⟩))
         (case aO=>exact (by (with_reducible repeat (first | apply Kd.R_alloc | apply Kd.R_drewN | apply Kd.R_drew));exact HO141.out))
         (case aS=>exact (below_size (q22_)))
         (case aL=>have:=LMc34.out;omega)
         intro v147 w47 ho hb hg hat;rw [← Ny146.out] at ho;have n0_:=Aside0.mk (blk_grown (g:=gb101) (o:=.cells #[.int .i64 a1_0,.int .i64 a1_1,.string a1_2] 63 (0,0)) (q14_) hg (Kd.R_away HO141.out (fun _ hk=>hk.2)));have n1_:=Aside0.mk (Kd.R_after (ok:=(fun k_=>k_ ≠ gb101)) (by (with_reducible repeat (first | apply Kd.R_alloc | apply Kd.R_drewN | apply Kd.R_drew));exact HO138.out) hg hat);have n2_:=Aside0.mk (hb);have n3_:=Aside0.mk (ho);clear BK101 HO138 HB HO141;have BK101:=n0_;have HO138:=n1_;have HB:=n2_;have HO148:=n3_;clear n0_ n1_ n2_ n3_ ho hb hg hat;refine hK.out _ _ ⟨(blk_cell BK101.out 0).trans rfl,(blk_cell BK101.out 1).trans rfl,(blk_cell BK101.out 2).trans rfl⟩ (fun hHeld=>?_);clear hK K;refine norm_ (a' := ?_) ?_ ?_;rotate_left
         ·show Act.put _ (some 33) _ = _;simp only [Act.put,List.setIfInBounds_toArray,List.set_cons_zero,List.set_cons_succ,i64_w,i32_w];rfl
         refine pure_ (i:=12) (N:=some 4) (v:=?_) (a' := ?_) #[true,true,true,true,true,true,true,true,true,true,true,true,true] rfl rfl (any_of HT_.out (by kernel_rfl)) (fun _ _ _ h=>h) (Or.inl ⟨by rfl,?_⟩) ?_ ?_;rotate_left
         ·intro w';go_simp;with_reducible rfl
         rotate_left
         ·exact q36_
         refine done_ (done_of HT_.out (by kernel_rfl)) ?_;try go_wp2
         go_ret;exact ⟨_,q5_,by (with_reducible repeat (first | apply Kd.R_alloc | apply Kd.R_drewN | apply Kd.R_drew));exact Kd.R_mono HO148.out (fun _ hk=>trivial),q22_⟩
        ·rw [if_neg c34] at H;exact absurd H (by simp)
       ·rw [if_neg c31] at H;exact absurd H (by simp)
      ·rw [if_neg c30] at H;exact absurd H (by simp)
     ·rw [if_neg c29] at H;exact absurd H (by simp)
    ·rw [if_neg c28] at H;exact absurd H (by simp)
end Go.Proofs.Ytmllkdgdkagkkaa.G
