-- Written by this session's own program over the kit's print (wip/tools/myprint.py); Lean checks it.
import Derived.Test.YtglcpghappepaaaGreatDoorMBase
import Derived.Test.YtglcpghappepaaaGreatDoorG0
namespace Go.Proofs.YtglcpghappepaaaGreatDoor.G
open Go.RowKit Go.Proofs.YtglcpghappepaaaGreatDoorW.PrintWords Go.Proofs.YtglcpghappepaaaGreatDoorW.PrintLast Go.Proofs.YtglcpghappepaaaGreatDoorW.PrintMore
attribute [local go_sem] max2_int min2_int max_two min_two max_three min_three max_four min_four str_geq str_gtr str_leq   -- for this text's walks alone
set_option linter.unusedVariables false
set_option linter.unusedSimpArgs false
/-! ### yAQ: function 36 -/
mutual
def yAQ.l0 : Nat → List (S25) → Int → Int → Int → ByteArray → Option ((List (S25)))
 | 0,_,_,_,_,_=>none
 | k + 1,x0,x5,x102000,x102001,x102002=>if x5 < (x0.length : Int) then (if 0 ≤ x5 then (yAQ.j1 k x0 x5 (decide (((rd_T25 x0 x5).f0) < x102000)) x102000 x102001 x102002) else (none)) else (yAQ.j1 k x0 x5 false x102000 x102001 x102002)
def yAQ.j1 : Nat → List (S25) → Int → Bool → Int → Int → ByteArray → Option ((List (S25)))
 | 0,_,_,_,_,_,_=>none
 | k + 1,x0,x5,x19,x102000,x102001,x102002=>if x19 = true then (yAQ.l0 k x0 (wrap64 (x5 + 1)) x102000 x102001 x102002) else ((some (([] : List (S25)) : List (S25))).bind fun y103=>(if 0 ≤ x5 then (if x5 ≤ (x0.length : Int) then ((some (x0.take (x5 : Int).toNat : List (S25))).bind fun y106=>(if y103.length + y106.length < 4398046511104 then ((some (y103 ++ y106 : List (S25))).bind fun y110=>((some (([(⟨x102000,x102001,x102002⟩ : S25)] : List (S25)) : List (S25))).bind fun y113=>(if y110.length + y113.length < 4398046511104 then ((some (y110 ++ y113 : List (S25))).bind fun y116=>((some (x0.drop (x5 : Int).toNat : List (S25))).bind fun y119=>(if y116.length + y119.length < 4398046511104 then (some (y116 ++ y119)) else (none)))) else (none)))) else (none))) else (none)) else (none)))
end
def yAQ.f (k : Nat) (l0 : List (S25)) (a1_0 : Int) (a1_1 : Int) (a1_2 : ByteArray) : Option ((List (S25))):=yAQ.l0 k l0 0 a1_0 a1_1 a1_2
def yAQ.T2 : Bool × List (List Nat × List Nat):=(true,[([],[]),([],[]),([1],[1]),([0,2],[0,2]),([3],[3]),([4],[4]),([4],[4]),([5,6,4],[4,5,6]),([7,4],[4,7]),([8,4],[4,8]),([4],[4]),([10,4],[4,10]),([9,11,4],[4,9,11]),([4,12],[4,12])])
def yAQ.B2 : List Nat:=[0,0,2,7,15,31,31,127,255,511,31,1055,4095,8191]
theorem yAQ.tab2 : rtab .any (opsOf Tryz.f36 2) = yAQ.T2:=by kernel_rfl
theorem yAQ.bits2 : waitsOk yAQ.T2.2 yAQ.B2 = true:=by kernel_rfl
def yAQ.T4 : Bool × List (List Nat × List Nat):=(true,[([],[]),([],[]),([],[]),([1,2],[1,2]),([0,3],[0,3]),([],[]),([5],[5]),([4,6,4],[4,6]),([],[]),([],[]),([8,9],[8,9]),([7,10,7],[7,10]),([11,11,0,1,2,3,4,5,6,7,8,9,10,11],[11])])
def yAQ.B4 : List Nat:=[0,0,0,6,15,0,32,127,0,0,768,2047,4095]
theorem yAQ.tab4 : rtab .any (opsOf Tryz.f36 4) = yAQ.T4:=by kernel_rfl
theorem yAQ.bits4 : waitsOk yAQ.T4.2 yAQ.B4 = true:=by kernel_rfl
set_option maxHeartbeats 8000000 in
set_option maxRecDepth 100000 in
theorem yAQ.calls (k : Nat) (A0 : Option Addr) (c0 : Nat) (l0 : List (S25)) (a1_0 : Int) (a1_1 : Int) (a1_2 : ByteArray) (r : List (S25)) (w : World) (hr0 : Kd.C k25 w A0 l0.length l0) (hc0 : l0.length ≤ c0) (h : yAQ.f k l0 a1_0 a1_1 a1_2 = some r) :
  Calls Tryz.prog 36 #[.slice A0 l0.length c0,.agg #[.int .i64 a1_0,.int .i64 a1_1,.string a1_2]] w fun e w' => ∃ v0_ : Value,e = .returned (v0_) ∧ Kd.R k25 25 w' w.heap.size (fun _=>True) v0_ r ∧ Below w.heap.size w w' := by
 have hu25:=Tryz.underlying25;have HR0:=Aside0.mk hr0;have HC0:=Aside0.mk hc0;clear hr0 hc0;have HB:=Aside0.mk (Below.refl w.heap.size w);have H : (yAQ.l0 k l0 0 a1_0 a1_1 a1_2) = some r:=h;clear h;have H' := Aside0.mk H;clear H;go_enter Tryz.func36,Tryz.ntmps36
 go_wp2_with (first | ((with_reducible refine gate_dst (N:=3) rfl ?_);refine box_event ?hg (N:=3) ?hd (cs:=#[.int .i64 a1_0,.int .i64 a1_1,.string a1_2]) (t:=25) ?hr ?_;(case hd=>rfl);(case hg=>rfl);(case hr=>first | (go_simp;done) | (go_simp;rfl));intro gb101 hg w3 hbox hb;have BK101:=Aside0.mk (hbox);have GW101:=Aside0.mk ((q49_ : w.heap.size ≤ gb101));have GE101:=Aside0.mk ((q49_ : w.heap.size ≤ gb101));replace HB:=bS_ HB hb;clear hb hbox hg))
 go_loopg [5] k (fun kq v5 w' => ∃ (x5_1 : Int),v5 = .int .i64 x5_1 ∧ Aside0 (yAQ.l0 kq l0 x5_1 a1_0 a1_1 a1_2 = some r) ∧ Aside0 (kq ≤ k) ∧ Aside0 (w'.heap[gb101]? = some (.cells #[.int .i64 a1_0,.int .i64 a1_1,.string a1_2] 25 (0,0))) ∧ Aside0 (Below w.heap.size w w'))
 case atStart=>exact ⟨(0),(q3_),H', ⟨Nat.le_refl _⟩,⟨q17_⟩,⟨q25_⟩⟩
 case round =>
  clear H';obtain ⟨x5_1,rfl,HA,HK1,BK101,HB⟩:=hrel;cases gk with
  | zero=>exact absurd HA.out (by simp [yAQ.l0])
  | succ k1 =>
   have H:=HA.out;clear HA;simp only [yAQ.l0] at H;have HC4:=Aside0.mk H;clear H;go_upto_region 2 with (fail)
   go_cut [19] (fun v19 wc=>∃ (kq : Nat) (x19_3 : Bool),v19 = .bool x19_3 ∧ Aside0 (yAQ.j1 kq l0 x5_1 x19_3 a1_0 a1_1 a1_2 = some r) ∧ Aside0 (kq ≤ k1) ∧ Aside0 (wc.heap[gb101]? = some (.cells #[.int .i64 a1_0,.int .i64 a1_1,.string a1_2] 25 (0,0))) ∧ Aside0 (Below w.heap.size w wc))
   case first =>
    have H:=HC4.out;clear HC4;by_cases c5 : x5_1 < (l0.length : Int)
    ·rw [if_pos c5] at H;have c5b0:=decide_eq_true c5;clear c5
     (first | rw [c5b0] | (simp only [i64_w,i32_w];rw [c5b0]) | skip)
     by_cases c6 : 0 ≤ x5_1
     ·rw [if_pos c6] at H;have c6b0:=decide_eq_true c6;clear c6;have H' := Aside0.mk H;clear H;try go_wp2
      replace BK101:=Aside0.mk (blk_drew BK101.out);replace HB:=Aside0.mk (below_drew1 HB.out);have p102 : 0 ≤ (x5_1 : Int):=of_decide_eq_true (q4_);have q102 : x5_1 < (l0.length : Int):=of_decide_eq_true (q4_);obtain ⟨ad102,e102,hx102_0,hx102_1,hx102_2⟩:=at_T25 HR0.out x5_1 p102 q102;have hw102_2:=hx102_2;have hw102_1:=hx102_1;have hw102_0:=hx102_0;cases e102;replace hx102_0:=hB_ HB.out hx102_0;replace hx102_1:=hB_ HB.out hx102_1;replace hx102_2:=hB_ HB.out hx102_2;replace p102:=eq_true p102;replace q102:=eq_true q102;refine start_ (n:=14) (S:=fun w' => w'.cell? ⟨gb101,0,none⟩ = some (.int .i64 a1_0) ∧ w'.cell? ⟨gb101,1,none⟩ = some (.int .i64 a1_1) ∧ w'.cell? ⟨gb101,2,none⟩ = some (.string a1_2) ∧ w'.cell? (ad102.add ((x5_1).toNat * 3)) = some (.int .i64 ((rd_T25 l0 x5_1).f0)) ∧ w'.cell? ⟨(ad102.add ((x5_1).toNat * 3)).block,(ad102.add ((x5_1).toNat * 3)).off + 1,none⟩ = some (.int .i64 ((rd_T25 l0 x5_1).f1)) ∧ w'.cell? ⟨(ad102.add ((x5_1).toNat * 3)).block,(ad102.add ((x5_1).toNat * 3)).off + 2,none⟩ = some (.string ((rd_T25 l0 x5_1).f2))) (ds:=[]) f65_ (by kernel_rfl) rfl rfl ⟨(blk_cell BK101.out 0).trans rfl,(blk_cell BK101.out 1).trans rfl,(blk_cell BK101.out 2).trans rfl,((HB.out.cell (World.block_lt_of_cell? w _ hw102_0)).trans hw102_0),((HB.out.cell (World.block_lt_of_cell? w _ hw102_1)).trans hw102_1),((HB.out.cell (World.block_lt_of_cell? w _ hw102_2)).trans hw102_2)⟩ (fun hHeld=>?_);refine with_tabW yAQ.tab2 yAQ.bits2 (fun HT_ HW_=>?_);generalize wr.drew = w7 at BK101 HB hx102_0 hx102_1 hx102_2 hHeld ⊢;refine pure_ (i:=0) (N:=some 6) (v:=?_) (a' := ?_) f66_ rfl rfl (any_of HT_.out (by kernel_rfl)) (fun _ _ _ h=>h) (Or.inl ⟨by rfl,?_⟩) ?_ ?_;rotate_left
      ·intro w';go_simp;with_reducible rfl
      rotate_left
      ·exact q53_
      refine pa_ 1 7 f67_ ?_
      refine pa_ 2 8 f68_ ?_
      refine pa_ 3 9 f69_ ?_
      refine pa_ 4 10 f70_ ?_
      refine pa_ 5 11 f71_ ?_
      refine pa_ 6 12 f235_ ?_
      refine pa_ 7 13 f236_ ?_
      refine pa_ 8 14 f237_ ?_
      refine pa_ 10 16 f238_ ?_
      refine take_ (i:=9) (N:=some 15) (v:=?_) (a' := ?_) f76_ rfl rfl (take_ofW HT_.out HW_.out (by kernel_rfl)) (fun _ _ _ h=>h) (Or.inl ⟨by rfl,?_⟩) hHeld ?_ ?_;rotate_left
      ·rintro w' ⟨s0,s1,s2,s3,s4,s5⟩;go_simp;with_reducible rfl
      rotate_left
      ·exact q53_
      refine take_ (i:=11) (N:=some 17) (v:=?_) (a' := ?_) f77_ rfl rfl (take_ofW HT_.out HW_.out (by kernel_rfl)) (fun _ _ _ h=>h) (Or.inl ⟨by rfl,?_⟩) hHeld ?_ ?_;rotate_left
      ·rintro w' ⟨s0,s1,s2,s3,s4,s5⟩;go_simp;with_reducible rfl
      rotate_left
      ·exact q53_
      refine pa_ 12 18 f78_ ?_
      refine pa_ 13 19 f79_ ?_
      refine done_ (done_of HT_.out (by kernel_rfl)) ?_;try go_wp2
      go_meet
      case rel=>exact ⟨_,(decide (((rd_T25 l0 x5_1).f0) < a1_0)),(q3_),H', ⟨by have:=HK1.out;first | omega | exact Nat.le_refl _⟩,⟨q17_⟩,⟨q25_⟩⟩
     ·rw [if_neg c6] at H;exact absurd H (q1_)
    ·rw [if_neg c5] at H;have c5b0:=decide_eq_false c5;clear c5
     (first | rw [c5b0] | (simp only [i64_w,i32_w];rw [c5b0]) | skip)
     have H' := Aside0.mk H;clear H;try go_wp2
     replace BK101:=Aside0.mk (blk_drew BK101.out);replace HB:=Aside0.mk (below_drew1 HB.out);refine start_ (n:=14) (S:=fun w' => True) (ds:=[]) f65_ (by kernel_rfl) rfl rfl trivial (fun hHeld=>?_);refine with_tabW yAQ.tab2 yAQ.bits2 (fun HT_ HW_=>?_);generalize wr.drew = w8 at BK101 HB hHeld ⊢;refine pure_ (i:=0) (N:=some 6) (v:=?_) (a' := ?_) f66_ rfl rfl (any_of HT_.out (by kernel_rfl)) (fun _ _ _ h=>h) (Or.inl ⟨by rfl,?_⟩) ?_ ?_;rotate_left
     ·intro w';go_simp;with_reducible rfl
     rotate_left
     ·exact q53_
     refine pa_ 1 7 f67_ ?_
     refine pa_ 2 8 f68_ ?_
     refine pa_ 3 9 f69_ ?_
     refine pa_ 4 10 f70_ ?_
     refine pu_ 5 11 f71_ ?_
     refine pu_ 6 12 f235_ ?_
     refine pu_ 7 13 f236_ ?_
     refine pu_ 8 14 f237_ ?_
     refine pu_ 9 15 f75_ ?_
     refine pu_ 10 16 f76_ ?_
     refine pu_ 11 17 f77_ ?_
     refine pu_ 12 18 f78_ ?_
     refine pa_ 13 19 f79_ ?_
     refine done_ (done_of HT_.out (by kernel_rfl)) ?_;try go_wp2
     go_meet
     case rel=>exact ⟨_,(false),(q3_),H', ⟨by have:=HK1.out;first | omega | exact Nat.le_refl _⟩,⟨q17_⟩,⟨q25_⟩⟩
   case rest =>
    clear HC4;try clear c5
    obtain ⟨kq,x19_3,rfl,HA,HJ3,BK101,HB⟩:=hcut;cases kq with
    | zero=>exact absurd HA.out (by simp [yAQ.j1])
    | succ kj3 =>
     have H:=HA.out;clear HA;simp only [yAQ.j1] at H;by_cases c9 : x19_3 = true
     ·subst c9;rw [if_pos rfl] at H;have H' := Aside0.mk H;clear H;go_wp2;go_roundg kj3
      case measure=>have:=HK1.out;have:=HJ3.out;omega
      case rel=>exact ⟨(wrap64 (x5_1 + 1)),(q3_),H', ⟨by have:=HK1.out;have:=HJ3.out;omega⟩,⟨q17_⟩,⟨q25_⟩⟩
     ·replace c9:=Bool.eq_false_iff.mpr c9;subst c9;rw [if_neg (show ¬ (false = true) by decide)] at H;obtain ⟨y103,hy103⟩ : ∃ y_ : List (S25),y_ = (([] : List (S25))):=⟨_,rfl⟩;replace H : (if 0 ≤ x5_1 then (if x5_1 ≤ (l0.length : Int) then ((some (l0.take (x5_1 : Int).toNat : List (S25))).bind fun y106=>(if y103.length + y106.length < 4398046511104 then ((some (y103 ++ y106 : List (S25))).bind fun y110=>((some (([(⟨a1_0,a1_1,a1_2⟩ : S25)] : List (S25)) : List (S25))).bind fun y113=>(if y110.length + y113.length < 4398046511104 then ((some (y110 ++ y113 : List (S25))).bind fun y116=>((some (l0.drop (x5_1 : Int).toNat : List (S25))).bind fun y119=>(if y116.length + y119.length < 4398046511104 then (some (y116 ++ y119)) else (none)))) else (none)))) else (none))) else (none)) else (none)) = some r:=by first | (rw [hy103];with_reducible exact H) | (have H2_:=(Option.bind_some _ _).symm.trans H;rw [hy103];with_reducible exact H2_) | (have H2_:=(Option.bind_some _ _).symm.trans H;with_reducible exact H2_) | with_reducible exact H | (rw [hy103];exact H) | exact H
      have Ny103:=Aside0.mk hy103;clear hy103;by_cases c10 : 0 ≤ x5_1
      ·rw [if_pos c10] at H;have c10b0:=eq_true c10;have c10b1:=decide_eq_true c10;clear c10;by_cases c11 : x5_1 ≤ (l0.length : Int)
       ·rw [if_pos c11] at H;have c11b0:=eq_true c11;have c11b1:=decide_eq_true c11;clear c11;obtain ⟨y106,hy106⟩ : ∃ y_ : List (S25),y_ = (l0.take (x5_1 : Int).toNat):=⟨_,rfl⟩;replace H : (if y103.length + y106.length < 4398046511104 then ((some (y103 ++ y106 : List (S25))).bind fun y110=>((some (([(⟨a1_0,a1_1,a1_2⟩ : S25)] : List (S25)) : List (S25))).bind fun y113=>(if y110.length + y113.length < 4398046511104 then ((some (y110 ++ y113 : List (S25))).bind fun y116=>((some (l0.drop (x5_1 : Int).toNat : List (S25))).bind fun y119=>(if y116.length + y119.length < 4398046511104 then (some (y116 ++ y119)) else (none)))) else (none)))) else (none)) = some r:=by first | (rw [hy106];with_reducible exact H) | (have H2_:=(Option.bind_some _ _).symm.trans H;rw [hy106];with_reducible exact H2_) | (have H2_:=(Option.bind_some _ _).symm.trans H;with_reducible exact H2_) | with_reducible exact H | (rw [hy106];exact H) | exact H
        have Ny106:=Aside0.mk hy106;clear hy106;by_cases c12 : y103.length + y106.length < 4398046511104
        ·rw [if_pos c12] at H;have LMc12:=Aside0.mk c12;clear c12;obtain ⟨y110,hy110⟩ : ∃ y_ : List (S25),y_ = (y103 ++ y106):=⟨_,rfl⟩;replace H : ((some (([(⟨a1_0,a1_1,a1_2⟩ : S25)] : List (S25)) : List (S25))).bind fun y113=>(if y110.length + y113.length < 4398046511104 then ((some (y110 ++ y113 : List (S25))).bind fun y116=>((some (l0.drop (x5_1 : Int).toNat : List (S25))).bind fun y119=>(if y116.length + y119.length < 4398046511104 then (some (y116 ++ y119)) else (none)))) else (none))) = some r:=by first | (rw [hy110];with_reducible exact H) | (have H2_:=(Option.bind_some _ _).symm.trans H;rw [hy110];with_reducible exact H2_) | (have H2_:=(Option.bind_some _ _).symm.trans H;with_reducible exact H2_) | with_reducible exact H | (rw [hy110];exact H) | exact H
         have Ny110:=Aside0.mk hy110;clear hy110;obtain ⟨y113,hy113⟩ : ∃ y_ : List (S25),y_ = (([(⟨a1_0,a1_1,a1_2⟩ : S25)] : List (S25))):=⟨_,rfl⟩;replace H : (if y110.length + y113.length < 4398046511104 then ((some (y110 ++ y113 : List (S25))).bind fun y116=>((some (l0.drop (x5_1 : Int).toNat : List (S25))).bind fun y119=>(if y116.length + y119.length < 4398046511104 then (some (y116 ++ y119)) else (none)))) else (none)) = some r:=by first | (rw [hy113];with_reducible exact H) | (have H2_:=(Option.bind_some _ _).symm.trans H;rw [hy113];with_reducible exact H2_) | (have H2_:=(Option.bind_some _ _).symm.trans H;with_reducible exact H2_) | with_reducible exact H | (rw [hy113];exact H) | exact H
         have Ny113:=Aside0.mk hy113;clear hy113;by_cases c13 : y110.length + y113.length < 4398046511104
         ·rw [if_pos c13] at H;have LMc13:=Aside0.mk c13;clear c13;obtain ⟨y116,hy116⟩ : ∃ y_ : List (S25),y_ = (y110 ++ y113):=⟨_,rfl⟩;replace H : ((some (l0.drop (x5_1 : Int).toNat : List (S25))).bind fun y119=>(if y116.length + y119.length < 4398046511104 then (some (y116 ++ y119)) else (none))) = some r:=by first | (rw [hy116];with_reducible exact H) | (have H2_:=(Option.bind_some _ _).symm.trans H;rw [hy116];with_reducible exact H2_) | (have H2_:=(Option.bind_some _ _).symm.trans H;with_reducible exact H2_) | with_reducible exact H | (rw [hy116];exact H) | exact H
          have Ny116:=Aside0.mk hy116;clear hy116;have c14b0:=eq_true (of_decide_eq_true (q4_) : 0 ≤ x5_1);have c15b0:=eq_true (of_decide_eq_true (q4_) : x5_1 ≤ (l0.length : Int));obtain ⟨y119,hy119⟩ : ∃ y_ : List (S25),y_ = (l0.drop (x5_1 : Int).toNat):=⟨_,rfl⟩;replace H : (if y116.length + y119.length < 4398046511104 then (some (y116 ++ y119)) else (none)) = some r:=by first | (rw [hy119];with_reducible exact H) | (have H2_:=(Option.bind_some _ _).symm.trans H;rw [hy119];with_reducible exact H2_) | (have H2_:=(Option.bind_some _ _).symm.trans H;with_reducible exact H2_) | with_reducible exact H | (rw [hy119];exact H) | exact H
          have Ny119:=Aside0.mk hy119;clear hy119;by_cases c16 : y116.length + y119.length < 4398046511104
          ·rw [if_pos c16] at H;have LMc16:=Aside0.mk c16;clear c16;obtain ⟨y123,hy123⟩ : ∃ y_ : List (S25),y_ = (y116 ++ y119):=⟨_,rfl⟩;replace H : (some y123) = some r:=by first | (rw [hy123];with_reducible exact H) | (have H2_:=(Option.bind_some _ _).symm.trans H;rw [hy123];with_reducible exact H2_) | (have H2_:=(Option.bind_some _ _).symm.trans H;with_reducible exact H2_) | with_reducible exact H | (rw [hy123];exact H) | exact H
           have Ny123:=Aside0.mk hy123;clear hy123;obtain rfl:=Option.some.inj H;try go_wp2
           replace BK101:=Aside0.mk (blk_drew BK101.out);replace HB:=Aside0.mk (below_drew1 HB.out);have q18 : (x5_1 : Int) ≤ ((l0.length : Int) : Int):=of_decide_eq_true (q4_);obtain ⟨i018,hi018,_,hsz18,_⟩:=info_parts info25;have hroom18 : l0.length ≤ c0:=HC0.out;have hC18 : Kd.C k25 _ A0 l0.length l0:=HR0.out;have hcut18:=cut_to (P:=Tryz.prog) 23 25 .i64 Tryz.underlying23 hi018 A0 l0.length c0 x5_1 (of_decide_eq_true (q4_)) q18 hroom18;have hr18:=Kd.C_take (m:=(x5_1 : Int).toNat) hC18 (by omega);have hy18 : y106.length = (x5_1 : Int).toNat:=(by rw [Ny106.out,List.length_take];omega);rw [← Ny106.out] at hr18;rw [← hy18] at hcut18;have HR109:=Aside0.mk hr18;have HC109:=Aside0.mk (show y106.length ≤ c0 from by omega);clear hr18 hC18 hroom18 hi018 hsz18;have KY18:=Aside0.mk hy18;clear hy18;replace q18:=eq_true q18;have q19 : (x5_1 : Int) ≤ ((l0.length : Int) : Int):=of_decide_eq_true (q4_);obtain ⟨i019,hi019,_,hsz19,_⟩:=info_parts info25;have hroom19 : l0.length ≤ c0:=HC0.out;have hC19 : Kd.C k25 _ A0 l0.length l0:=HR0.out;have q019 : (0 : Int) ≤ (x5_1 : Int):=of_decide_eq_true (q4_);have hcut19:=cut_from (P:=Tryz.prog) 23 25 .i64 Tryz.underlying23 hi019 3 hsz19 A0 l0.length c0 x5_1 q019 q19;have hr19:=Kd.C_drop (m:=(x5_1 : Int).toNat) (c:=c0) hC19 (by omega) hroom19;obtain ⟨A19,hA19⟩ : ∃ A1,A1 = (if c0 = (x5_1 : Int).toNat then A0 else (A0 : Option Addr).map (·.add ((x5_1 : Int).toNat * 3))):=⟨_,rfl⟩;obtain ⟨c19,hc19⟩ : ∃ c1,c1 = c0 - (x5_1 : Int).toNat:=⟨_,rfl⟩;have hy19 : y119.length = l0.length - (x5_1 : Int).toNat:=(by rw [Ny119.out,List.length_drop] <;> omega);rw [show (l0).drop (x5_1 : Int).toNat = y119 from Ny119.out.symm] at hr19;replace hr19 : Kd.C k25 _ A19 y119.length y119:=(by rw [hA19];exact hr19);rw [← hy19,← hA19,← hc19] at hcut19;have HR122:=Aside0.mk hr19;have HC122:=Aside0.mk (show y119.length ≤ c19 from by rw [hy19,hc19];exact Nat.sub_le_sub_right hroom19 _);clear hr19 hC19 hroom19 hi019 hsz19 hc19;have KY19:=Aside0.mk hy19;have KA19:=Aside0.mk hA19;clear hy19 hA19;replace q19:=eq_true q19;refine start_ (n:=13) (S:=fun w' => w'.cell? ⟨gb101,0,none⟩ = some (.int .i64 a1_0) ∧ w'.cell? ⟨gb101,1,none⟩ = some (.int .i64 a1_1) ∧ w'.cell? ⟨gb101,2,none⟩ = some (.string a1_2)) (ds:=[]) f239_ (by kernel_rfl) rfl rfl ⟨(blk_cell BK101.out 0).trans rfl,(blk_cell BK101.out 1).trans rfl,(blk_cell BK101.out 2).trans rfl⟩ (fun hHeld=>?_);refine with_tabW yAQ.tab4 yAQ.bits4 (fun HT_ HW_=>?_);generalize wc.drew = w17 at BK101 HB HR109 HR122 hHeld ⊢;refine pure_ (i:=1) (N:=some 23) (v:=?_) (a' := ?_) f240_ rfl rfl (any_of HT_.out (by kernel_rfl)) (fun _ _ _ h=>h) (Or.inl ⟨by rfl,?_⟩) ?_ ?_;rotate_left
           ·intro w';go_simp;with_reducible rfl
           rotate_left
           ·exact q53_
           refine pa_ 2 24 f241_ ?_
           refine pa_ 3 25 f242_ ?_
           refine pa_ 8 30 f243_ ?_
           refine pa_ 9 31 f244_ ?_
           refine pa_ 10 32 f245_ ?_
           refine take_ (i:=5) (N:=some 27) (v:=?_) (a' := ?_) f246_ rfl rfl (take_ofW HT_.out HW_.out (by kernel_rfl)) (fun _ _ _ h=>h) (Or.inl ⟨by rfl,?_⟩) hHeld ?_ ?_;rotate_left
           ·rintro w' ⟨s0,s1,s2⟩;go_simp;with_reducible rfl
           rotate_left
           ·exact q53_
           refine join_ (σ:=Value × Value × Value) 3 f247_ (fun s_=>[(22,s_.1),(26,s_.2.1),(28,s_.2.2)]) (fun s_ w' => (w'.cell? ⟨gb101,0,none⟩ = some (.int .i64 a1_0) ∧ w'.cell? ⟨gb101,1,none⟩ = some (.int .i64 a1_1) ∧ w'.cell? ⟨gb101,2,none⟩ = some (.string a1_2)) ∧ (Kd.R k25 25 w' w.heap.size (fun k_=>some k_ ≠ (s_.2.2 : Value).ownBlock ∧ k_ ≠ gb101) s_.2.1 y110) ∧ (Kd.R k25 25 w' w.heap.size (fun k_=>some k_ ≠ (s_.2.1 : Value).ownBlock ∧ k_ ≠ gb101) s_.2.2 y113) ∧ (w'.heap[gb101]? = some (.cells #[.int .i64 a1_0,.int .i64 a1_1,.string a1_2] 25 (0,0))) ∧ (Below w.heap.size w w')) ?_ ?_;rotate_left
           ·intro hCont;refine two_ (i:=0) (j:=6) (Ni:=some 22) (Nj:=some 28) f248_ f249_ rfl rfl rfl rfl (two_of HT_.out (by kernel_rfl)) (by decide) (by decide) (fun K hK=>?_) (fun K hK=>?_)
            ·skip
             refine Kd.R_lit_step k25 _ 25 ?hg (N:=22) ?hd (xs:=([] : List (S25))) (inner:=[]) (ok:=fun _=>True) (okp:=fun _=>True) ?hr ?hp (fun _ hk=>hk) trivial (Below.refl _ _) (Nat.le_refl _) (q1_) ?_;(case hd=>rfl);(case hg=>rfl);(case hr=>first | (go_simp;done) | (go_simp;rfl));(case hp=>exact (Reps.none _ _));intro v104 w20 ho21 hb hg_ hnew_;clear hg_ hnew_
             (first | rw [← Ny103.out] at ho21 | (simp only [Int.reduceToNat] at ho21;rw [← Ny103.out] at ho21))
             have HO105:=Aside0.mk (Kd.R_lower (Kd.R_newB ho21 (g:=gb101) (o:=.cells #[.int .i64 a1_0,.int .i64 a1_1,.string a1_2] 25 (0,0)) (q17_)) (below_size (q25_)));replace BK101:=bkB_ BK101 hb;replace HB:=Aside0.mk (below_step (q25_) hb);clear hb ho21;refine hK.out _ _ ⟨(blk_cell BK101.out 0).trans rfl,(blk_cell BK101.out 1).trans rfl,(blk_cell BK101.out 2).trans rfl⟩ (fun hHeld=>?_);clear hK K;refine norm_ (a' := ?_) ?_ ?_;rotate_left
             ·show Act.put _ (some 22) _ = _;simp only [Act.put,List.setIfInBounds_toArray,List.set_cons_zero,List.set_cons_succ,i64_w,i32_w];rfl
             refine two_ (i:=4) (j:=6) (Ni:=some 26) (Nj:=some 28) f250_ f251_ rfl rfl rfl rfl (two_of HT_.out (by kernel_rfl)) (by decide) (by decide) (fun K hK=>?_) (fun K hK=>?_)
             ·skip
              refine Kd.R_append_rows_step k25 (w0:=w) w.heap.size (by rfl) (.tmp 22) (.tmp 25) 23 25 (.agg #[(.int .i64 0),(.int .i64 0),(.string ⟨#[]⟩)]) 32 rfl Tryz.underlying23 info25 rfl (by decide) (by omega) v104 y103 y106 _ _ _ (fun k_=>k_ ≠ gb101) (fun _=>False) rfl rfl ?aO ?aR (fun _ _ h=>h) (fun _ h=>h.elim) ?aF ?aB ?aS ?aL ?_
              (case aR=>exact cX_ (Kd.C_below HR109.out HB.out))
              (case aB=>exact (q25_))
              (case aF=>exact (fun k_ hk=>Kd.freshB (g:=gb101) (o:=.cells #[.int .i64 a1_0,.int .i64 a1_1,.string a1_2] 25 (0,0)) (q17_) k_ hk))
              (case aO=>exact (by (with_reducible repeat (first | apply Kd.R_alloc | apply Kd.R_drewN | apply Kd.R_drew));exact Kd.R_mono HO105.out (fun _ hk=>hk.2)))
              (case aS=>exact (below_size (q25_)))
              (case aL=>have:=LMc12.out;omega)
              intro v111 w22 ho hb hg hat;rw [← Ny110.out] at ho;replace BK101:=Aside0.mk (blk_grown (g:=gb101) (o:=.cells #[.int .i64 a1_0,.int .i64 a1_1,.string a1_2] 25 (0,0)) (q17_) hg (Kd.R_away HO105.out (fun _ hk=>hk.2)));replace HB:=Aside0.mk (hb);have HO112:=Aside0.mk (ho);clear HO105 ho hb hg hat;refine hK.out _ _ ⟨(blk_cell BK101.out 0).trans rfl,(blk_cell BK101.out 1).trans rfl,(blk_cell BK101.out 2).trans rfl⟩ (fun hHeld=>?_);clear hK K;refine norm_ (a' := ?_) ?_ ?_;rotate_left
              ·show Act.put _ (some 26) _ = _;simp only [Act.put,List.setIfInBounds_toArray,List.set_cons_zero,List.set_cons_succ,i64_w,i32_w];rfl
              refine one_ (i:=6) (N:=some 28) f247_ rfl rfl (one_of HT_.out (by kernel_rfl)) (by decide) (fun K hK=>?_);refine Kd.R_lit_step k25 _ 25 ?hg (N:=28) ?hd (xs:=([(⟨a1_0,a1_1,a1_2⟩ : S25)] : List (S25))) (inner:=[.int .i64 a1_0,.int .i64 a1_1,.string a1_2]) (ok:=fun _=>True) (okp:=fun _=>True) ?hr ?hp (fun _ hk=>hk) trivial (Below.refl _ _) (Nat.le_refl _) (q1_) ?_;(case hd=>rfl);(case hg=>rfl);(case hr=>first | (go_simp;done) | (go_simp;rfl));(case hp=>exact (Reps.c3 (show Kd.M k25 _ _ _ (⟨a1_0,a1_1,a1_2⟩ : S25) [.int .i64 a1_0,.int .i64 a1_1,.string a1_2] from (k25_mkM _ _ _ (⟨a1_0,a1_1,a1_2⟩ : S25) )) (Reps.none _ _)));intro v114 w23 ho24 hb hg_ hnew_;clear hg_ hnew_
              (first | rw [← Ny113.out] at ho24 | (simp only [Int.reduceToNat] at ho24;rw [← Ny113.out] at ho24))
              have HO115:=Aside0.mk (Kd.R_lower (Kd.R_newB (Kd.R_new' ho24 (Kd.R_lt (q16_))) (g:=gb101) (o:=.cells #[.int .i64 a1_0,.int .i64 a1_1,.string a1_2] 25 (0,0)) (q17_)) (below_size (q25_)));replace HO112:=rE_ HO112 ho24 hb;replace BK101:=bkB_ BK101 hb;replace HB:=Aside0.mk (below_step (q25_) hb);clear hb ho24;refine hK.out _ _ ⟨(blk_cell BK101.out 0).trans rfl,(blk_cell BK101.out 1).trans rfl,(blk_cell BK101.out 2).trans rfl⟩ (fun hHeld=>?_);clear hK K;refine norm_ (a' := ?_) ?_ ?_;rotate_left
              ·show Act.put _ (some 28) _ = _;simp only [Act.put,List.setIfInBounds_toArray,List.set_cons_zero,List.set_cons_succ,i64_w,i32_w];rfl
              exact norm_ (by simp only [putAll,Act.put,List.setIfInBounds_toArray,List.set_cons_zero,List.set_cons_succ]) (hCont (v104,v111,v114) _ ⟨hHeld,(by (with_reducible repeat (first | apply Kd.R_alloc | apply Kd.R_drewN | apply Kd.R_drew));exact Kd.R_mono HO112.out (fun _ hk=>⟨hk.2,hk.1⟩)),(by (with_reducible repeat (first | apply Kd.R_alloc | apply Kd.R_drewN | apply Kd.R_drew));exact Kd.R_mono HO115.out (fun _ hk=>⟨hk.1.2,hk.2⟩)),(q17_),(q25_)⟩)
             ·skip
              refine Kd.R_lit_step k25 _ 25 ?hg (N:=28) ?hd (xs:=([(⟨a1_0,a1_1,a1_2⟩ : S25)] : List (S25))) (inner:=[.int .i64 a1_0,.int .i64 a1_1,.string a1_2]) (ok:=fun _=>True) (okp:=fun _=>True) ?hr ?hp (fun _ hk=>hk) trivial (Below.refl _ _) (Nat.le_refl _) (q1_) ?_;(case hd=>rfl);(case hg=>rfl);(case hr=>first | (go_simp;done) | (go_simp;rfl));(case hp=>exact (Reps.c3 (show Kd.M k25 _ _ _ (⟨a1_0,a1_1,a1_2⟩ : S25) [.int .i64 a1_0,.int .i64 a1_1,.string a1_2] from (k25_mkM _ _ _ (⟨a1_0,a1_1,a1_2⟩ : S25) )) (Reps.none _ _)));intro v114 w22 ho23 hb hg_ hnew_;clear hg_ hnew_
              (first | rw [← Ny113.out] at ho23 | (simp only [Int.reduceToNat] at ho23;rw [← Ny113.out] at ho23))
              have HO115:=Aside0.mk (Kd.R_lower (Kd.R_newB (Kd.R_new' ho23 (Kd.R_lt (by (with_reducible repeat (first | apply Kd.R_alloc | apply Kd.R_drewN | apply Kd.R_drew));exact HO105.out))) (g:=gb101) (o:=.cells #[.int .i64 a1_0,.int .i64 a1_1,.string a1_2] 25 (0,0)) (q17_)) (below_size (q25_)));replace HO105:=rE_ HO105 ho23 hb;replace BK101:=bkB_ BK101 hb;replace HB:=Aside0.mk (below_step (q25_) hb);clear hb ho23;refine hK.out _ _ ⟨(blk_cell BK101.out 0).trans rfl,(blk_cell BK101.out 1).trans rfl,(blk_cell BK101.out 2).trans rfl⟩ (fun hHeld=>?_);clear hK K;refine norm_ (a' := ?_) ?_ ?_;rotate_left
              ·show Act.put _ (some 28) _ = _;simp only [Act.put,List.setIfInBounds_toArray,List.set_cons_zero,List.set_cons_succ,i64_w,i32_w];rfl
              refine one_ (i:=4) (N:=some 26) f247_ rfl rfl (one_of HT_.out (by kernel_rfl)) (by decide) (fun K hK=>?_);refine Kd.R_append_rows_step k25 (w0:=w) w.heap.size (by rfl) (.tmp 22) (.tmp 25) 23 25 (.agg #[(.int .i64 0),(.int .i64 0),(.string ⟨#[]⟩)]) 32 rfl Tryz.underlying23 info25 rfl (by decide) (by omega) v104 y103 y106 _ _ _ (fun k_=>some k_ ≠ (v114 : Value).ownBlock ∧ k_ ≠ gb101) (fun _=>False) rfl rfl ?aO ?aR (fun _ _ h=>h) (fun _ h=>h.elim) ?aF ?aB ?aS ?aL ?_
              (case aR=>exact cX_ (Kd.C_below HR109.out HB.out))
              (case aB=>exact (q25_))
              (case aF=>exact (fun k_ hk=>⟨Kd.fresh' (Kd.R_lt (by (with_reducible repeat (first | apply Kd.R_alloc | apply Kd.R_drewN | apply Kd.R_drew));exact HO115.out)) k_ hk,Kd.freshB (g:=gb101) (o:=.cells #[.int .i64 a1_0,.int .i64 a1_1,.string a1_2] 25 (0,0)) (q17_) k_ hk⟩))
              (case aO=>exact (by (with_reducible repeat (first | apply Kd.R_alloc | apply Kd.R_drewN | apply Kd.R_drew));exact Kd.R_mono HO105.out (fun _ hk=>⟨hk.2,hk.1.2⟩)))
              (case aS=>exact (below_size (q25_)))
              (case aL=>have:=LMc12.out;omega)
              intro v111 w24 ho hb hg hat;rw [← Ny110.out] at ho;replace BK101:=Aside0.mk (blk_grown (g:=gb101) (o:=.cells #[.int .i64 a1_0,.int .i64 a1_1,.string a1_2] 25 (0,0)) (q17_) hg (Kd.R_away HO105.out (fun _ hk=>hk.1.2)));replace HO115:=Aside0.mk (Kd.R_after (ok:=(fun k_=>k_ ≠ gb101)) (by (with_reducible repeat (first | apply Kd.R_alloc | apply Kd.R_drewN | apply Kd.R_drew));exact Kd.R_mono HO115.out (fun _ hk=>⟨hk.2,hk.1.2⟩)) hg hat);replace HB:=Aside0.mk (hb);have HO112:=Aside0.mk (ho);clear HO105 ho hb hg hat;refine hK.out _ _ ⟨(blk_cell BK101.out 0).trans rfl,(blk_cell BK101.out 1).trans rfl,(blk_cell BK101.out 2).trans rfl⟩ (fun hHeld=>?_);clear hK K;refine norm_ (a' := ?_) ?_ ?_;rotate_left
              ·show Act.put _ (some 26) _ = _;simp only [Act.put,List.setIfInBounds_toArray,List.set_cons_zero,List.set_cons_succ,i64_w,i32_w];rfl
              exact norm_ (by simp only [putAll,Act.put,List.setIfInBounds_toArray,List.set_cons_zero,List.set_cons_succ]) (hCont (v104,v111,v114) _ ⟨hHeld,(q16_),(by (with_reducible repeat (first | apply Kd.R_alloc | apply Kd.R_drewN | apply Kd.R_drew));exact Kd.R_mono HO115.out (fun _ hk=>⟨hk.2,hk.1⟩)),(q17_),(q25_)⟩)
            ·skip
             refine Kd.R_lit_step k25 _ 25 ?hg (N:=28) ?hd (xs:=([(⟨a1_0,a1_1,a1_2⟩ : S25)] : List (S25))) (inner:=[.int .i64 a1_0,.int .i64 a1_1,.string a1_2]) (ok:=fun _=>True) (okp:=fun _=>True) ?hr ?hp (fun _ hk=>hk) trivial (Below.refl _ _) (Nat.le_refl _) (q1_) ?_;(case hd=>rfl);(case hg=>rfl);(case hr=>first | (go_simp;done) | (go_simp;rfl));(case hp=>exact (Reps.c3 (show Kd.M k25 _ _ _ (⟨a1_0,a1_1,a1_2⟩ : S25) [.int .i64 a1_0,.int .i64 a1_1,.string a1_2] from (k25_mkM _ _ _ (⟨a1_0,a1_1,a1_2⟩ : S25) )) (Reps.none _ _)));intro v114 w20 ho21 hb hg_ hnew_;clear hg_ hnew_
             (first | rw [← Ny113.out] at ho21 | (simp only [Int.reduceToNat] at ho21;rw [← Ny113.out] at ho21))
             have HO115:=Aside0.mk (Kd.R_lower (Kd.R_newB ho21 (g:=gb101) (o:=.cells #[.int .i64 a1_0,.int .i64 a1_1,.string a1_2] 25 (0,0)) (q17_)) (below_size (q25_)));replace BK101:=bkB_ BK101 hb;replace HB:=Aside0.mk (below_step (q25_) hb);clear hb ho21;refine hK.out _ _ ⟨(blk_cell BK101.out 0).trans rfl,(blk_cell BK101.out 1).trans rfl,(blk_cell BK101.out 2).trans rfl⟩ (fun hHeld=>?_);clear hK K;refine norm_ (a' := ?_) ?_ ?_;rotate_left
             ·show Act.put _ (some 28) _ = _;simp only [Act.put,List.setIfInBounds_toArray,List.set_cons_zero,List.set_cons_succ,i64_w,i32_w];rfl
             refine one_ (i:=0) (N:=some 22) f251_ rfl rfl (one_of HT_.out (by kernel_rfl)) (by decide) (fun K hK=>?_);refine Kd.R_lit_step k25 _ 25 ?hg (N:=22) ?hd (xs:=([] : List (S25))) (inner:=[]) (ok:=fun _=>True) (okp:=fun _=>True) ?hr ?hp (fun _ hk=>hk) trivial (Below.refl _ _) (Nat.le_refl _) (q1_) ?_;(case hd=>rfl);(case hg=>rfl);(case hr=>first | (go_simp;done) | (go_simp;rfl));(case hp=>exact (Reps.none _ _));intro v104 w22 ho23 hb hg_ hnew_;clear hg_ hnew_
             (first | rw [← Ny103.out] at ho23 | (simp only [Int.reduceToNat] at ho23;rw [← Ny103.out] at ho23))
             have HO105:=Aside0.mk (Kd.R_lower (Kd.R_newB (Kd.R_new' ho23 (Kd.R_lt (by (with_reducible repeat (first | apply Kd.R_alloc | apply Kd.R_drewN | apply Kd.R_drew));exact HO115.out))) (g:=gb101) (o:=.cells #[.int .i64 a1_0,.int .i64 a1_1,.string a1_2] 25 (0,0)) (q17_)) (below_size (q25_)));replace HO115:=rE_ HO115 ho23 hb;replace BK101:=bkB_ BK101 hb;replace HB:=Aside0.mk (below_step (q25_) hb);clear hb ho23;refine hK.out _ _ ⟨(blk_cell BK101.out 0).trans rfl,(blk_cell BK101.out 1).trans rfl,(blk_cell BK101.out 2).trans rfl⟩ (fun hHeld=>?_);clear hK K;refine norm_ (a' := ?_) ?_ ?_;rotate_left
             ·show Act.put _ (some 22) _ = _;simp only [Act.put,List.setIfInBounds_toArray,List.set_cons_zero,List.set_cons_succ,i64_w,i32_w];rfl
             refine one_ (i:=4) (N:=some 26) f247_ rfl rfl (one_of HT_.out (by kernel_rfl)) (by decide) (fun K hK=>?_);refine Kd.R_append_rows_step k25 (w0:=w) w.heap.size (by rfl) (.tmp 22) (.tmp 25) 23 25 (.agg #[(.int .i64 0),(.int .i64 0),(.string ⟨#[]⟩)]) 32 rfl Tryz.underlying23 info25 rfl (by decide) (by omega) v104 y103 y106 _ _ _ (fun k_=>some k_ ≠ (v114 : Value).ownBlock ∧ k_ ≠ gb101) (fun _=>False) rfl rfl ?aO ?aR (fun _ _ h=>h) (fun _ h=>h.elim) ?aF ?aB ?aS ?aL ?_
             (case aR=>exact cX_ (Kd.C_below HR109.out HB.out))
             (case aB=>exact (q25_))
             (case aF=>exact (fun k_ hk=>⟨Kd.fresh' (Kd.R_lt (by (with_reducible repeat (first | apply Kd.R_alloc | apply Kd.R_drewN | apply Kd.R_drew));exact HO115.out)) k_ hk,Kd.freshB (g:=gb101) (o:=.cells #[.int .i64 a1_0,.int .i64 a1_1,.string a1_2] 25 (0,0)) (q17_) k_ hk⟩))
             (case aO=>exact (by (with_reducible repeat (first | apply Kd.R_alloc | apply Kd.R_drewN | apply Kd.R_drew));exact Kd.R_mono HO105.out (fun _ hk=>⟨hk.1.2,hk.2⟩)))
             (case aS=>exact (below_size (q25_)))
             (case aL=>have:=LMc12.out;omega)
             intro v111 w24 ho hb hg hat;rw [← Ny110.out] at ho;replace BK101:=Aside0.mk (blk_grown (g:=gb101) (o:=.cells #[.int .i64 a1_0,.int .i64 a1_1,.string a1_2] 25 (0,0)) (q17_) hg (Kd.R_away HO105.out (fun _ hk=>hk.2)));replace HO115:=Aside0.mk (Kd.R_after (ok:=(fun k_=>k_ ≠ gb101)) (by (with_reducible repeat (first | apply Kd.R_alloc | apply Kd.R_drewN | apply Kd.R_drew));exact Kd.R_mono HO115.out (fun _ hk=>⟨hk.1.2,hk.2⟩)) hg hat);replace HB:=Aside0.mk (hb);have HO112:=Aside0.mk (ho);clear HO105 ho hb hg hat;refine hK.out _ _ ⟨(blk_cell BK101.out 0).trans rfl,(blk_cell BK101.out 1).trans rfl,(blk_cell BK101.out 2).trans rfl⟩ (fun hHeld=>?_);clear hK K;refine norm_ (a' := ?_) ?_ ?_;rotate_left
             ·show Act.put _ (some 26) _ = _;simp only [Act.put,List.setIfInBounds_toArray,List.set_cons_zero,List.set_cons_succ,i64_w,i32_w];rfl
             exact norm_ (by simp only [putAll,Act.put,List.setIfInBounds_toArray,List.set_cons_zero,List.set_cons_succ]) (hCont (v104,v111,v114) _ ⟨hHeld,(q16_),(by (with_reducible repeat (first | apply Kd.R_alloc | apply Kd.R_drewN | apply Kd.R_drew));exact Kd.R_mono HO115.out (fun _ hk=>⟨hk.2,hk.1⟩)),(q17_),(q25_)⟩)
           rintro ⟨v104,v111,v114⟩ w25 ⟨hS_,h0_,h1_,h2_,h3_⟩;have n0_ : Aside0 (Kd.R k25 25 w25 w.heap.size (fun k_=>some k_ ≠ (v114 : Value).ownBlock ∧ k_ ≠ gb101) v111 y110):=⟨h0_⟩;have n1_ : Aside0 (Kd.R k25 25 w25 w.heap.size (fun k_=>some k_ ≠ (v111 : Value).ownBlock ∧ k_ ≠ gb101) v114 y113):=⟨h1_⟩;have n2_ : Aside0 (w25.heap[gb101]? = some (.cells #[.int .i64 a1_0,.int .i64 a1_1,.string a1_2] 25 (0,0))):=⟨h2_⟩;have n3_ : Aside0 (Below w.heap.size w w25):=⟨h3_⟩;clear BK101 HB h0_ h1_ h2_ h3_;have HO112:=n0_;have HO115:=n1_;have BK101:=n2_;have HB:=n3_;clear n0_ n1_ n2_ n3_;have hHeld : w25.cell? ⟨gb101,0,none⟩ = some (.int .i64 a1_0) ∧ w25.cell? ⟨gb101,1,none⟩ = some (.int .i64 a1_1) ∧ w25.cell? ⟨gb101,2,none⟩ = some (.string a1_2):=hS_;obtain ⟨Ao27,co27,eo27⟩:=Kd.R_slice HO115.out
           (first | subst eo27 | (injection eo27 with f1_ f2_ f3_;have f4_:=f1_.symm;have f5_:=f3_.symm;clear f1_ f2_ f3_;subst f4_;subst f5_))
           refine norm_ (a' := ?_) ?_ ?_;rotate_left
           ·simp only [putAll,Act.put,List.setIfInBounds_toArray,List.set_cons_zero,List.set_cons_succ];rfl
           refine one_ (i:=7) (N:=some 29) f252_ rfl rfl (one_of HT_.out (by kernel_rfl)) (by decide) (fun K hK=>?_);refine Kd.R_append_rows_step k25 (w0:=w) w.heap.size (by rfl) (.tmp 26) (.tmp 28) 23 25 (.agg #[(.int .i64 0),(.int .i64 0),(.string ⟨#[]⟩)]) 32 rfl Tryz.underlying23 info25 rfl (by decide) (by omega) v111 y110 y113 _ _ _ (fun k_=>some k_ ≠ (.slice Ao27 y113.length co27 : Value).ownBlock ∧ k_ ≠ gb101) (fun _=>False) rfl rfl ?aO ?aR (fun _ _ h=>h) (fun _ h=>h.elim) ?aF ?aB ?aS ?aL ?_
           (case aR=>exact cX_ (Kd.R_reads' HO115.out).2.2)
           (case aB=>exact (q25_))
           (case aF=>exact (fun k_ hk=>⟨Kd.fresh' (Kd.R_lt (by (with_reducible repeat (first | apply Kd.R_alloc | apply Kd.R_drewN | apply Kd.R_drew));exact HO115.out)) k_ hk,Kd.freshB (g:=gb101) (o:=.cells #[.int .i64 a1_0,.int .i64 a1_1,.string a1_2] 25 (0,0)) (q17_) k_ hk⟩))
           (case aO=>exact (q16_))
           (case aS=>exact (below_size (q25_)))
           (case aL=>have:=LMc13.out;omega)
           intro v117 w26 ho hb hg hat;rw [← Ny116.out] at ho;replace BK101:=Aside0.mk (blk_grown (g:=gb101) (o:=.cells #[.int .i64 a1_0,.int .i64 a1_1,.string a1_2] 25 (0,0)) (q17_) hg (Kd.R_away HO112.out (fun _ hk=>hk.2)));replace HO115:=Aside0.mk (Kd.R_after (ok:=(fun k_=>k_ ≠ gb101)) (by (with_reducible repeat (first | apply Kd.R_alloc | apply Kd.R_drewN | apply Kd.R_drew));exact Kd.R_mono HO115.out (fun _ hk=>⟨hk.2,hk.1⟩)) hg hat);replace HB:=Aside0.mk (hb);have HO118:=Aside0.mk (ho);clear HO112 ho hb hg hat;refine hK.out _ _ ⟨(blk_cell BK101.out 0).trans rfl,(blk_cell BK101.out 1).trans rfl,(blk_cell BK101.out 2).trans rfl⟩ (fun hHeld=>?_);clear hK K;refine norm_ (a' := ?_) ?_ ?_;rotate_left
           ·show Act.put _ (some 29) _ = _;simp only [Act.put,List.setIfInBounds_toArray,List.set_cons_zero,List.set_cons_succ,i64_w,i32_w];rfl
           refine one_ (i:=11) (N:=some 33) f253_ rfl rfl (one_of HT_.out (by kernel_rfl)) (by decide) (fun K hK=>?_);refine Kd.R_append_rows_step k25 (w0:=w) w.heap.size (by rfl) (.tmp 29) (.tmp 32) 23 25 (.agg #[(.int .i64 0),(.int .i64 0),(.string ⟨#[]⟩)]) 32 rfl Tryz.underlying23 info25 rfl (by decide) (by omega) v117 y116 y119 _ _ _ (fun k_=>some k_ ≠ (.slice Ao27 y113.length co27 : Value).ownBlock ∧ k_ ≠ gb101) (fun _=>False) rfl rfl ?aO ?aR (fun _ _ h=>h) (fun _ h=>h.elim) ?aF ?aB ?aS ?aL ?_
           (case aR=>exact cX_ (Kd.C_below HR122.out HB.out))
           (case aB=>exact (q25_))
           (case aF=>exact (fun k_ hk=>⟨Kd.fresh' (Kd.R_lt (by (with_reducible repeat (first | apply Kd.R_alloc | apply Kd.R_drewN | apply Kd.R_drew));exact HO115.out)) k_ hk,Kd.freshB (g:=gb101) (o:=.cells #[.int .i64 a1_0,.int .i64 a1_1,.string a1_2] 25 (0,0)) (q17_) k_ hk⟩))
           (case aO=>exact (by (with_reducible repeat (first | apply Kd.R_alloc | apply Kd.R_drewN | apply Kd.R_drew));exact HO118.out))
           (case aS=>exact (below_size (q25_)))
           (case aL=>have:=LMc16.out;omega)
           intro v124 w28 ho hb hg hat;rw [← Ny123.out] at ho;replace BK101:=Aside0.mk (blk_grown (g:=gb101) (o:=.cells #[.int .i64 a1_0,.int .i64 a1_1,.string a1_2] 25 (0,0)) (q17_) hg (Kd.R_away HO118.out (fun _ hk=>hk.2)));replace HO115:=Aside0.mk (Kd.R_after (ok:=(fun k_=>k_ ≠ gb101)) (by (with_reducible repeat (first | apply Kd.R_alloc | apply Kd.R_drewN | apply Kd.R_drew));exact HO115.out) hg hat);replace HB:=Aside0.mk (hb);have HO125:=Aside0.mk (ho);clear HO118 ho hb hg hat;refine hK.out _ _ ⟨(blk_cell BK101.out 0).trans rfl,(blk_cell BK101.out 1).trans rfl,(blk_cell BK101.out 2).trans rfl⟩ (fun hHeld=>?_);clear hK K;refine norm_ (a' := ?_) ?_ ?_;rotate_left
           ·show Act.put _ (some 33) _ = _;simp only [Act.put,List.setIfInBounds_toArray,List.set_cons_zero,List.set_cons_succ,i64_w,i32_w];rfl
           refine pa_ 12 4 f254_ ?_
           refine done_ (done_of HT_.out (by kernel_rfl)) ?_;try go_wp2
           go_ret;exact ⟨_,q6_,by (with_reducible repeat (first | apply Kd.R_alloc | apply Kd.R_drewN | apply Kd.R_drew));exact Kd.R_mono HO125.out (fun _ hk=>trivial),q25_⟩
          ·rw [if_neg c16] at H;exact absurd H (q1_)
         ·rw [if_neg c13] at H;exact absurd H (q1_)
        ·rw [if_neg c12] at H;exact absurd H (q1_)
       ·rw [if_neg c11] at H;exact absurd H (q1_)
      ·rw [if_neg c10] at H;exact absurd H (q1_)
end Go.Proofs.YtglcpghappepaaaGreatDoor.G
