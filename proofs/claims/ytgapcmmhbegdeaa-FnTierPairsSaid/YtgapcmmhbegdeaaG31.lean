-- Written by this session's own program over the kit's print (wip/tools/myprint.py); Lean checks it.
import Derived.Test.YtgapcmmhbegdeaaMBase
import Derived.Test.YtgapcmmhbegdeaaG0
import Derived.Test.YtgapcmmhbegdeaaG17
import Derived.Test.YtgapcmmhbegdeaaG29
namespace Go.Proofs.Ytgapcmmhbegdeaa.G
open Go.RowKit Go.Proofs.YtgapcmmhbegdeaaW.PrintWords Go.Proofs.YtgapcmmhbegdeaaW.PrintLast Go.Proofs.YtgapcmmhbegdeaaW.PrintMore
attribute [local go_sem] max2_int min2_int max_two min_two max_three min_three max_four min_four str_geq str_gtr str_leq   -- for this text's walks alone
set_option linter.unusedVariables false
set_option linter.unusedSimpArgs false
/-! ### yAS: function 206 -/
mutual
def yAS.l0 : Nat → List (S58) → Int → Int → Int → List (S58) → Int → Int → Option (Int × Int × Int)
 | 0,_,_,_,_,_,_,_=>none
 | k + 1,x1,x7,x8,x9,x16,x17,x18=>if x18 < x17 then (if 0 ≤ x18 then (if x18 < (x16.length : Int) then (yAS.l1 k x1 x7 x8 x9 x16 x17 x18 x1 (x1.length : Int) 0 ((rd_T58 x16 x18).f0) ((rd_T58 x16 x18).f1) ((rd_T58 x16 x18).f2)) else (none)) else (none)) else (some (x7,x8,x9))
def yAS.l1 : Nat → List (S58) → Int → Int → Int → List (S58) → Int → Int → List (S58) → Int → Int → Int → Int → ByteArray → Option (Int × Int × Int)
 | 0,_,_,_,_,_,_,_,_,_,_,_,_,_=>none
 | k + 1,x1,x7,x8,x9,x16,x17,x18,x22,x23,x24,x103000,x103001,x103002=>if x24 < x23 then (if 0 ≤ x24 then (if x24 < (x22.length : Int) then ((yAc.f x103000 ((rd_T58 x22 x24).f0)).bind fun t105=>((yAp.f x103001 ((rd_T58 x22 x24).f1)).bind fun t106=>((yAc.f x103000 ((rd_T58 x22 x24).f0)).bind fun t107=>(if (wrap64 (t106 - t107)) ≤ 0 then (yAS.l1 k x1 x7 x8 x9 x16 x17 x18 x22 x23 (wrap64 (x24 + 1)) x103000 x103001 x103002) else (if x103002.toList = ((rd_T58 x22 x24).f2).toList then (yAS.l1 k x1 (wrap64 (x7 + (wrap64 (t106 - t107)))) x8 x9 x16 x17 x18 x22 x23 (wrap64 (x24 + 1)) x103000 x103001 x103002) else (if x9 < 0 then (yAS.l1 k x1 x7 (wrap64 (x8 + (wrap64 (t106 - t107)))) t105 x16 x17 x18 x22 x23 (wrap64 (x24 + 1)) x103000 x103001 x103002) else (yAS.l1 k x1 x7 (wrap64 (x8 + (wrap64 (t106 - t107)))) x9 x16 x17 x18 x22 x23 (wrap64 (x24 + 1)) x103000 x103001 x103002))))))) else (none)) else (none)) else (yAS.l0 k x1 x7 x8 x9 x16 x17 (wrap64 (x18 + 1)))
end
def yAS.f (k : Nat) (l0 : List (S58)) (l1 : List (S58)) : Option (Int × Int × Int):=yAS.l0 k l1 0 0 (-1) l0 (l0.length : Int) 0
set_option maxHeartbeats 8000000 in
set_option maxRecDepth 100000 in
theorem yAS.calls (k : Nat) (A0 : Option Addr) (c0 : Nat) (l0 : List (S58)) (A1 : Option Addr) (c1 : Nat) (l1 : List (S58)) (r1 : Int) (r2 : Int) (r3 : Int) (w : World) (hr0 : Kd.C k58 w A0 l0.length l0) (hc0 : l0.length ≤ c0) (hr1 : Kd.C k58 w A1 l1.length l1) (hc1 : l1.length ≤ c1) (h : yAS.f k l0 l1 = some (r1,r2,r3)) :
  Calls Try.prog 206 #[.slice A0 l0.length c0,.slice A1 l1.length c1] w fun e w' => e = .returned (.tuple #[.int .i64 r1,.int .i64 r2,.int .i64 r3]) ∧ Below w.heap.size w w' := by
 have hu58:=Try.underlying58;have HR0:=Aside0.mk hr0;have HC0:=Aside0.mk hc0;clear hr0 hc0;have HR1:=Aside0.mk hr1;have HC1:=Aside0.mk hc1;clear hr1 hc1;have HB:=Aside0.mk (Below.refl w.heap.size w);have H : (yAS.l0 k l1 0 0 (-1) l0 (l0.length : Int) 0) = some (r1,r2,r3):=h;clear h;have H' := Aside0.mk H;clear H;go_enter Try.func206,Try.ntmps206
 go_wp2;repeat (go_quiet (fail);try go_wp2)
 go_loopg [7,8,9,18] k (fun kq v7 v8 v9 v18 w' => ∃ (x7_1 : Int) (x8_1 : Int) (x9_1 : Int) (x18_1 : Int),v7 = .int .i64 x7_1 ∧ v8 = .int .i64 x8_1 ∧ v9 = .int .i64 x9_1 ∧ v18 = .int .i64 x18_1 ∧ Aside0 (yAS.l0 kq l1 x7_1 x8_1 x9_1 l0 (l0.length : Int) x18_1 = some (r1,r2,r3)) ∧ Aside0 (kq ≤ k) ∧ Aside0 (Below w.heap.size w w'))
 case atStart=>exact ⟨(0),(0),((-1)),(0),(q1_),(q1_),(q1_),(q1_),H', ⟨Nat.le_refl _⟩,⟨q22_⟩⟩
 case round =>
  clear H';try clear c1
  obtain ⟨x7_1,x8_1,x9_1,x18_1,rfl,rfl,rfl,rfl,HA,HK1,HB⟩:=hrel;cases gk with
  | zero=>exact absurd HA.out (by simp [yAS.l0])
  | succ k1 =>
   have H:=HA.out;clear HA;simp only [yAS.l0] at H;by_cases c3 : x18_1 < (l0.length : Int)
   ·rw [if_pos c3] at H;have c3b0:=decide_eq_true c3;clear c3;by_cases c4 : 0 ≤ x18_1
    ·rw [if_pos c4] at H;have c4b0:=decide_eq_true c4;clear c4;by_cases c5 : x18_1 < (l0.length : Int)
     ·rw [if_pos c5] at H;have c5b0:=decide_eq_true c5;clear c5;have H' := Aside0.mk H;clear H;have p101 : 0 ≤ (x18_1 : Int):=of_decide_eq_true (q2_);have q101 : x18_1 < (l0.length : Int):=of_decide_eq_true (q2_);obtain ⟨ad101,e101,hx101_0,hx101_1,hx101_2⟩:=at_T58 HR0.out x18_1 p101 q101;cases e101;replace hx101_0:=hB_ HB.out hx101_0;replace hx101_1:=hB_ HB.out hx101_1;replace hx101_2:=hB_ HB.out hx101_2;replace p101:=eq_true p101;replace q101:=eq_true q101;iterate 3 (go_wp2_with (first | ((with_reducible refine gate_dst (N:=11) rfl ?_);refine box_event ?hg (N:=11) ?hd (cs:=#[.int .i64 0,.int .i64 0,.string (⟨#[]⟩ : ByteArray)]) (t:=58) ?hr ?_;(case hd=>rfl);(case hg=>rfl);(case hr=>first | (go_simp;done) | (go_simp;rfl));intro gb102 hg w6 hbox hb;have BK102:=Aside0.mk (hbox);have GW102:=Aside0.mk ((q60_ : w.heap.size ≤ gb102));have GE102:=Aside0.mk ((q60_ : w.heap.size ≤ gb102));replace HB:=bS_ HB hb;clear hb hbox hg;obtain ⟨hcz7_0,hcz7_1,hcz7_2,hfz7_0,hfz7_1,hfz7_2⟩:=bx3_ BK102.out));try go_quiet (fail))
      go_loopg [7,8,9,24] k1 (fun kq v7 v8 v9 v24 w' => ∃ (x7_2 : Int) (x8_2 : Int) (x9_2 : Int) (x24_2 : Int),v7 = .int .i64 x7_2 ∧ v8 = .int .i64 x8_2 ∧ v9 = .int .i64 x9_2 ∧ v24 = .int .i64 x24_2 ∧ Aside0 (yAS.l1 kq l1 x7_2 x8_2 x9_2 l0 (l0.length : Int) x18_1 l1 (l1.length : Int) x24_2 ((rd_T58 l0 x18_1).f0) ((rd_T58 l0 x18_1).f1) ((rd_T58 l0 x18_1).f2) = some (r1,r2,r3)) ∧ Aside0 (kq ≤ k1) ∧ Aside0 (w'.heap[gb102]? = some (.cells #[.int .i64 ((rd_T58 l0 x18_1).f0),.int .i64 ((rd_T58 l0 x18_1).f1),.string ((rd_T58 l0 x18_1).f2)] 58 (0,0))) ∧ Aside0 (Below w.heap.size w w'))
      case atStart=>exact ⟨(x7_1),(x8_1),(x9_1),(0),(q1_),(q1_),(q1_),(q1_),H', ⟨Nat.le_refl _⟩,⟨by (with_reducible repeat (first | refine blk_drewN ?_ _ | refine blk_drew ?_ | refine blk_alloc ?_ _));refine blk_put (cs:=#[.int .i64 ((rd_T58 l0 x18_1).f0),.int .i64 ((rd_T58 l0 x18_1).f1),.string (⟨#[]⟩ : ByteArray)]) ?_ 2 _ rfl;(with_reducible repeat (first | refine blk_drewN ?_ _ | refine blk_drew ?_ | refine blk_alloc ?_ _));refine blk_put (cs:=#[.int .i64 ((rd_T58 l0 x18_1).f0),.int .i64 0,.string (⟨#[]⟩ : ByteArray)]) ?_ 1 _ rfl;(with_reducible repeat (first | refine blk_drewN ?_ _ | refine blk_drew ?_ | refine blk_alloc ?_ _));refine blk_put (cs:=#[.int .i64 0,.int .i64 0,.string (⟨#[]⟩ : ByteArray)]) ?_ 0 _ rfl;(with_reducible repeat (first | refine blk_drewN ?_ _ | refine blk_drew ?_ | refine blk_alloc ?_ _));exact BK102.out⟩,⟨q26_⟩⟩
      case round =>
       clear H';try clear c1
       try clear c3
       try clear c3b0
       try clear c4
       try clear c4b0
       try clear c5
       try clear c5b0
       try clear hcz7_0
       try clear hcz7_1
       try clear hcz7_2
       try clear hfz7_0
       try clear hfz7_1
       try clear hfz7_2
       try clear hx101_0
       try clear hx101_1
       try clear hx101_2
       try clear p101
       try clear q101
       obtain ⟨x7_2,x8_2,x9_2,x24_2,rfl,rfl,rfl,rfl,HA,HK2,BK102,HB⟩:=hrel;cases gk with
       | zero=>exact absurd HA.out (by simp [yAS.l1])
       | succ k2 =>
        have H:=HA.out;clear HA;simp only [yAS.l1] at H;by_cases c8 : x24_2 < (l1.length : Int)
        ·rw [if_pos c8] at H;have c8b0:=decide_eq_true c8;clear c8;by_cases c9 : 0 ≤ x24_2
         ·rw [if_pos c9] at H;have c9b0:=decide_eq_true c9;clear c9;by_cases c10 : x24_2 < (l1.length : Int)
          ·rw [if_pos c10] at H;have c10b0:=decide_eq_true c10;clear c10;replace H:=Option.bind_eq_some_iff.mp H;obtain ⟨t105,A110,H⟩:=H;(try dsimp only at H);have A11:=Aside0.mk A110;clear A110;replace H:=Option.bind_eq_some_iff.mp H;obtain ⟨t106,A120,H⟩:=H;(try dsimp only at H);have A12:=Aside0.mk A120;clear A120;replace H:=Option.bind_eq_some_iff.mp H;obtain ⟨t107,A130,H⟩:=H;(try dsimp only at H);have A13:=Aside0.mk A130;clear A130;obtain rfl : t105 = t107:=Option.some.inj (A11.out.symm.trans A13.out);by_cases c14 : (wrap64 (t106 - t105)) ≤ 0
           ·rw [if_pos c14] at H;have c14b0:=decide_eq_true c14;clear c14;have H' := Aside0.mk H;clear H;have p103 : 0 ≤ (x24_2 : Int):=of_decide_eq_true (q2_);have q103 : x24_2 < (l1.length : Int):=of_decide_eq_true (q2_);obtain ⟨ad103,e103,hx103_0,hx103_1,hx103_2⟩:=at_T58 HR1.out x24_2 p103 q103;cases e103;replace hx103_0:=hB_ HB.out hx103_0;replace hx103_1:=hB_ HB.out hx103_1;replace hx103_2:=hB_ HB.out hx103_2;replace p103:=eq_true p103;replace q103:=eq_true q103;iterate 3 (go_wp2_with (first | ((with_reducible refine gate_dst (N:=13) rfl ?_);refine box_event ?hg (N:=13) ?hd (cs:=#[.int .i64 0,.int .i64 0,.string (⟨#[]⟩ : ByteArray)]) (t:=58) ?hr ?_;(case hd=>rfl);(case hg=>rfl);(case hr=>first | (go_simp;done) | (go_simp;rfl));intro gb104 hg w15 hbox hb;have BK104:=Aside0.mk (hbox);have GW104:=Aside0.mk ((q62_ : w.heap.size ≤ gb104));have GE104:=Aside0.mk ((q62_ : w.heap.size ≤ gb104));replace HB:=Aside0.mk (below_step (q26_) hb);have NB102_104:=Aside0.mk ((q65_ : gb102 ≠ gb104));have NB104_102:=Aside0.mk ((q66_ : gb104 ≠ gb102));replace BK102:=bkB_ BK102 hb;clear hb hbox hg;have hnb16:=NB104_102.out;have hnc16:=NB102_104.out;obtain ⟨hcz17_0,hcz17_1,hcz17_2,hfz17_0,hfz17_1,hfz17_2⟩:=bx3_ BK104.out;obtain ⟨hcz18_0,hcz18_1,hcz18_2,hfz18_0,hfz18_1,hfz18_2⟩:=bx3_ BK102.out) | (go_at_call 226;(with_reducible refine (yAc.calls ((rd_T58 l0 x18_1).f0) ((rd_T58 l1 x24_2).f0) t105 _ A11.out).mono ?_);rintro e w' ⟨rfl,⟨nd,rfl⟩⟩;(try first | exact ⟨rfl,_,World.drewN_drewN _ _ _⟩ | exact ⟨rfl,_,Eq.trans (World.drewN_drewN _ _ _) (congrArg (World.drewN _) (Nat.add_assoc _ _ _))⟩)) | (go_at_call 225;(with_reducible refine (yAp.calls ((rd_T58 l0 x18_1).f1) ((rd_T58 l1 x24_2).f1) t106 _ A12.out).mono ?_);rintro e w' ⟨rfl,⟨nd,rfl⟩⟩;(try first | exact ⟨rfl,_,World.drewN_drewN _ _ _⟩ | exact ⟨rfl,_,Eq.trans (World.drewN_drewN _ _ _) (congrArg (World.drewN _) (Nat.add_assoc _ _ _))⟩)) | (go_at_call 226;(with_reducible refine (yAc.calls ((rd_T58 l0 x18_1).f0) ((rd_T58 l1 x24_2).f0) t105 _ A13.out).mono ?_);rintro e w' ⟨rfl,⟨nd,rfl⟩⟩;(try first | exact ⟨rfl,_,World.drewN_drewN _ _ _⟩ | exact ⟨rfl,_,Eq.trans (World.drewN_drewN _ _ _) (congrArg (World.drewN _) (Nat.add_assoc _ _ _))⟩)));try go_quiet (first | (go_at_call 226;(with_reducible refine (yAc.calls ((rd_T58 l0 x18_1).f0) ((rd_T58 l1 x24_2).f0) t105 _ A11.out).mono ?_);rintro e w' ⟨rfl,⟨nd,rfl⟩⟩;(try first | exact ⟨rfl,_,World.drewN_drewN _ _ _⟩ | exact ⟨rfl,_,Eq.trans (World.drewN_drewN _ _ _) (congrArg (World.drewN _) (Nat.add_assoc _ _ _))⟩)) | (go_at_call 225;(with_reducible refine (yAp.calls ((rd_T58 l0 x18_1).f1) ((rd_T58 l1 x24_2).f1) t106 _ A12.out).mono ?_);rintro e w' ⟨rfl,⟨nd,rfl⟩⟩;(try first | exact ⟨rfl,_,World.drewN_drewN _ _ _⟩ | exact ⟨rfl,_,Eq.trans (World.drewN_drewN _ _ _) (congrArg (World.drewN _) (Nat.add_assoc _ _ _))⟩)) | (go_at_call 226;(with_reducible refine (yAc.calls ((rd_T58 l0 x18_1).f0) ((rd_T58 l1 x24_2).f0) t105 _ A13.out).mono ?_);rintro e w' ⟨rfl,⟨nd,rfl⟩⟩;(try first | exact ⟨rfl,_,World.drewN_drewN _ _ _⟩ | exact ⟨rfl,_,Eq.trans (World.drewN_drewN _ _ _) (congrArg (World.drewN _) (Nat.add_assoc _ _ _))⟩))))
            go_roundg k2
            case measure=>have:=HK1.out;have:=HK2.out;omega
            case rel=>exact ⟨(x7_2),(x8_2),(x9_2),(wrap64 (x24_2 + 1)),(q1_),(q1_),(q1_),(q1_),H', ⟨by have:=HK1.out;have:=HK2.out;omega⟩,⟨q53_⟩,⟨q37_⟩⟩
           ·rw [if_neg c14] at H;have c14b0:=decide_eq_false c14;clear c14;by_cases c19 : ((rd_T58 l0 x18_1).f2).toList = ((rd_T58 l1 x24_2).f2).toList
            ·rw [if_pos c19] at H;have c19b0 : (((rd_T58 l0 x18_1).f2).toList == ((rd_T58 l1 x24_2).f2).toList) = true:=beq_iff_eq.mpr c19;have c19b1 : (((rd_T58 l0 x18_1).f2).toList != ((rd_T58 l1 x24_2).f2).toList) = false:=bne_eq_false_iff_eq.mpr c19;clear c19;have H' := Aside0.mk H;clear H;have p103 : 0 ≤ (x24_2 : Int):=of_decide_eq_true (q2_);have q103 : x24_2 < (l1.length : Int):=of_decide_eq_true (q2_);obtain ⟨ad103,e103,hx103_0,hx103_1,hx103_2⟩:=at_T58 HR1.out x24_2 p103 q103;cases e103;replace hx103_0:=hB_ HB.out hx103_0;replace hx103_1:=hB_ HB.out hx103_1;replace hx103_2:=hB_ HB.out hx103_2;replace p103:=eq_true p103;replace q103:=eq_true q103;iterate 3 (go_wp2_with (first | ((with_reducible refine gate_dst (N:=13) rfl ?_);refine box_event ?hg (N:=13) ?hd (cs:=#[.int .i64 0,.int .i64 0,.string (⟨#[]⟩ : ByteArray)]) (t:=58) ?hr ?_;(case hd=>rfl);(case hg=>rfl);(case hr=>first | (go_simp;done) | (go_simp;rfl));intro gb104 hg w20 hbox hb;have BK104:=Aside0.mk (hbox);have GW104:=Aside0.mk ((q62_ : w.heap.size ≤ gb104));have GE104:=Aside0.mk ((q62_ : w.heap.size ≤ gb104));replace HB:=Aside0.mk (below_step (q26_) hb);have NB102_104:=Aside0.mk ((q65_ : gb102 ≠ gb104));have NB104_102:=Aside0.mk ((q66_ : gb104 ≠ gb102));replace BK102:=bkB_ BK102 hb;clear hb hbox hg;have hnb21:=NB104_102.out;have hnc21:=NB102_104.out;obtain ⟨hcz22_0,hcz22_1,hcz22_2,hfz22_0,hfz22_1,hfz22_2⟩:=bx3_ BK104.out;obtain ⟨hcz23_0,hcz23_1,hcz23_2,hfz23_0,hfz23_1,hfz23_2⟩:=bx3_ BK102.out) | (go_at_call 226;(with_reducible refine (yAc.calls ((rd_T58 l0 x18_1).f0) ((rd_T58 l1 x24_2).f0) t105 _ A11.out).mono ?_);rintro e w' ⟨rfl,⟨nd,rfl⟩⟩;(try first | exact ⟨rfl,_,World.drewN_drewN _ _ _⟩ | exact ⟨rfl,_,Eq.trans (World.drewN_drewN _ _ _) (congrArg (World.drewN _) (Nat.add_assoc _ _ _))⟩)) | (go_at_call 225;(with_reducible refine (yAp.calls ((rd_T58 l0 x18_1).f1) ((rd_T58 l1 x24_2).f1) t106 _ A12.out).mono ?_);rintro e w' ⟨rfl,⟨nd,rfl⟩⟩;(try first | exact ⟨rfl,_,World.drewN_drewN _ _ _⟩ | exact ⟨rfl,_,Eq.trans (World.drewN_drewN _ _ _) (congrArg (World.drewN _) (Nat.add_assoc _ _ _))⟩)) | (go_at_call 226;(with_reducible refine (yAc.calls ((rd_T58 l0 x18_1).f0) ((rd_T58 l1 x24_2).f0) t105 _ A13.out).mono ?_);rintro e w' ⟨rfl,⟨nd,rfl⟩⟩;(try first | exact ⟨rfl,_,World.drewN_drewN _ _ _⟩ | exact ⟨rfl,_,Eq.trans (World.drewN_drewN _ _ _) (congrArg (World.drewN _) (Nat.add_assoc _ _ _))⟩)));try go_quiet (first | (go_at_call 226;(with_reducible refine (yAc.calls ((rd_T58 l0 x18_1).f0) ((rd_T58 l1 x24_2).f0) t105 _ A11.out).mono ?_);rintro e w' ⟨rfl,⟨nd,rfl⟩⟩;(try first | exact ⟨rfl,_,World.drewN_drewN _ _ _⟩ | exact ⟨rfl,_,Eq.trans (World.drewN_drewN _ _ _) (congrArg (World.drewN _) (Nat.add_assoc _ _ _))⟩)) | (go_at_call 225;(with_reducible refine (yAp.calls ((rd_T58 l0 x18_1).f1) ((rd_T58 l1 x24_2).f1) t106 _ A12.out).mono ?_);rintro e w' ⟨rfl,⟨nd,rfl⟩⟩;(try first | exact ⟨rfl,_,World.drewN_drewN _ _ _⟩ | exact ⟨rfl,_,Eq.trans (World.drewN_drewN _ _ _) (congrArg (World.drewN _) (Nat.add_assoc _ _ _))⟩)) | (go_at_call 226;(with_reducible refine (yAc.calls ((rd_T58 l0 x18_1).f0) ((rd_T58 l1 x24_2).f0) t105 _ A13.out).mono ?_);rintro e w' ⟨rfl,⟨nd,rfl⟩⟩;(try first | exact ⟨rfl,_,World.drewN_drewN _ _ _⟩ | exact ⟨rfl,_,Eq.trans (World.drewN_drewN _ _ _) (congrArg (World.drewN _) (Nat.add_assoc _ _ _))⟩))))
             go_roundg k2
             case measure=>have:=HK1.out;have:=HK2.out;omega
             case rel=>exact ⟨(wrap64 (x7_2 + (wrap64 (t106 - t105)))),(x8_2),(x9_2),(wrap64 (x24_2 + 1)),(q1_),(q1_),(q1_),(q1_),H', ⟨by have:=HK1.out;have:=HK2.out;omega⟩,⟨q53_⟩,⟨q37_⟩⟩
            ·rw [if_neg c19] at H;have c19b0 : (((rd_T58 l0 x18_1).f2).toList == ((rd_T58 l1 x24_2).f2).toList) = false:=beq_eq_false_iff_ne.mpr c19;have c19b1 : (((rd_T58 l0 x18_1).f2).toList != ((rd_T58 l1 x24_2).f2).toList) = true:=bne_iff_ne.mpr c19;by_cases c24 : x9_2 < 0
             ·rw [if_pos c24] at H;have c24b0:=decide_eq_true c24;clear c24;have H' := Aside0.mk H;clear H;have p103 : 0 ≤ (x24_2 : Int):=of_decide_eq_true (q2_);have q103 : x24_2 < (l1.length : Int):=of_decide_eq_true (q2_);obtain ⟨ad103,e103,hx103_0,hx103_1,hx103_2⟩:=at_T58 HR1.out x24_2 p103 q103;cases e103;replace hx103_0:=hB_ HB.out hx103_0;replace hx103_1:=hB_ HB.out hx103_1;replace hx103_2:=hB_ HB.out hx103_2;replace p103:=eq_true p103;replace q103:=eq_true q103;iterate 3 (go_wp2_with (first | ((with_reducible refine gate_dst (N:=13) rfl ?_);refine box_event ?hg (N:=13) ?hd (cs:=#[.int .i64 0,.int .i64 0,.string (⟨#[]⟩ : ByteArray)]) (t:=58) ?hr ?_;(case hd=>rfl);(case hg=>rfl);(case hr=>first | (go_simp;done) | (go_simp;rfl));intro gb104 hg w25 hbox hb;have BK104:=Aside0.mk (hbox);have GW104:=Aside0.mk ((q62_ : w.heap.size ≤ gb104));have GE104:=Aside0.mk ((q62_ : w.heap.size ≤ gb104));replace HB:=Aside0.mk (below_step (q26_) hb);have NB102_104:=Aside0.mk ((q65_ : gb102 ≠ gb104));have NB104_102:=Aside0.mk ((q66_ : gb104 ≠ gb102));replace BK102:=bkB_ BK102 hb;clear hb hbox hg;have hnb26:=NB104_102.out;have hnc26:=NB102_104.out;obtain ⟨hcz27_0,hcz27_1,hcz27_2,hfz27_0,hfz27_1,hfz27_2⟩:=bx3_ BK104.out;obtain ⟨hcz28_0,hcz28_1,hcz28_2,hfz28_0,hfz28_1,hfz28_2⟩:=bx3_ BK102.out) | (go_at_call 226;(with_reducible refine (yAc.calls ((rd_T58 l0 x18_1).f0) ((rd_T58 l1 x24_2).f0) t105 _ A11.out).mono ?_);rintro e w' ⟨rfl,⟨nd,rfl⟩⟩;(try first | exact ⟨rfl,_,World.drewN_drewN _ _ _⟩ | exact ⟨rfl,_,Eq.trans (World.drewN_drewN _ _ _) (congrArg (World.drewN _) (Nat.add_assoc _ _ _))⟩)) | (go_at_call 225;(with_reducible refine (yAp.calls ((rd_T58 l0 x18_1).f1) ((rd_T58 l1 x24_2).f1) t106 _ A12.out).mono ?_);rintro e w' ⟨rfl,⟨nd,rfl⟩⟩;(try first | exact ⟨rfl,_,World.drewN_drewN _ _ _⟩ | exact ⟨rfl,_,Eq.trans (World.drewN_drewN _ _ _) (congrArg (World.drewN _) (Nat.add_assoc _ _ _))⟩)) | (go_at_call 226;(with_reducible refine (yAc.calls ((rd_T58 l0 x18_1).f0) ((rd_T58 l1 x24_2).f0) t105 _ A13.out).mono ?_);rintro e w' ⟨rfl,⟨nd,rfl⟩⟩;(try first | exact ⟨rfl,_,World.drewN_drewN _ _ _⟩ | exact ⟨rfl,_,Eq.trans (World.drewN_drewN _ _ _) (congrArg (World.drewN _) (Nat.add_assoc _ _ _))⟩)));try go_quiet (first | (go_at_call 226;(with_reducible refine (yAc.calls ((rd_T58 l0 x18_1).f0) ((rd_T58 l1 x24_2).f0) t105 _ A11.out).mono ?_);rintro e w' ⟨rfl,⟨nd,rfl⟩⟩;(try first | exact ⟨rfl,_,World.drewN_drewN _ _ _⟩ | exact ⟨rfl,_,Eq.trans (World.drewN_drewN _ _ _) (congrArg (World.drewN _) (Nat.add_assoc _ _ _))⟩)) | (go_at_call 225;(with_reducible refine (yAp.calls ((rd_T58 l0 x18_1).f1) ((rd_T58 l1 x24_2).f1) t106 _ A12.out).mono ?_);rintro e w' ⟨rfl,⟨nd,rfl⟩⟩;(try first | exact ⟨rfl,_,World.drewN_drewN _ _ _⟩ | exact ⟨rfl,_,Eq.trans (World.drewN_drewN _ _ _) (congrArg (World.drewN _) (Nat.add_assoc _ _ _))⟩)) | (go_at_call 226;(with_reducible refine (yAc.calls ((rd_T58 l0 x18_1).f0) ((rd_T58 l1 x24_2).f0) t105 _ A13.out).mono ?_);rintro e w' ⟨rfl,⟨nd,rfl⟩⟩;(try first | exact ⟨rfl,_,World.drewN_drewN _ _ _⟩ | exact ⟨rfl,_,Eq.trans (World.drewN_drewN _ _ _) (congrArg (World.drewN _) (Nat.add_assoc _ _ _))⟩))))
              go_roundg k2
              case measure=>have:=HK1.out;have:=HK2.out;omega
              case rel=>exact ⟨(x7_2),(wrap64 (x8_2 + (wrap64 (t106 - t105)))),(t105),(wrap64 (x24_2 + 1)),(q1_),(q1_),(q1_),(q1_),H', ⟨by have:=HK1.out;have:=HK2.out;omega⟩,⟨q53_⟩,⟨q37_⟩⟩
             ·rw [if_neg c24] at H;have c24b0:=decide_eq_false c24;clear c24;have H' := Aside0.mk H;clear H;have p103 : 0 ≤ (x24_2 : Int):=of_decide_eq_true (q2_);have q103 : x24_2 < (l1.length : Int):=of_decide_eq_true (q2_);obtain ⟨ad103,e103,hx103_0,hx103_1,hx103_2⟩:=at_T58 HR1.out x24_2 p103 q103;cases e103;replace hx103_0:=hB_ HB.out hx103_0;replace hx103_1:=hB_ HB.out hx103_1;replace hx103_2:=hB_ HB.out hx103_2;replace p103:=eq_true p103;replace q103:=eq_true q103;iterate 3 (go_wp2_with (first | ((with_reducible refine gate_dst (N:=13) rfl ?_);refine box_event ?hg (N:=13) ?hd (cs:=#[.int .i64 0,.int .i64 0,.string (⟨#[]⟩ : ByteArray)]) (t:=58) ?hr ?_;(case hd=>rfl);(case hg=>rfl);(case hr=>first | (go_simp;done) | (go_simp;rfl));intro gb104 hg w29 hbox hb;have BK104:=Aside0.mk (hbox);have GW104:=Aside0.mk ((q62_ : w.heap.size ≤ gb104));have GE104:=Aside0.mk ((q62_ : w.heap.size ≤ gb104));replace HB:=Aside0.mk (below_step (q26_) hb);have NB102_104:=Aside0.mk ((q65_ : gb102 ≠ gb104));have NB104_102:=Aside0.mk ((q66_ : gb104 ≠ gb102));replace BK102:=bkB_ BK102 hb;clear hb hbox hg;have hnb30:=NB104_102.out;have hnc30:=NB102_104.out;obtain ⟨hcz31_0,hcz31_1,hcz31_2,hfz31_0,hfz31_1,hfz31_2⟩:=bx3_ BK104.out;obtain ⟨hcz32_0,hcz32_1,hcz32_2,hfz32_0,hfz32_1,hfz32_2⟩:=bx3_ BK102.out) | (go_at_call 226;(with_reducible refine (yAc.calls ((rd_T58 l0 x18_1).f0) ((rd_T58 l1 x24_2).f0) t105 _ A11.out).mono ?_);rintro e w' ⟨rfl,⟨nd,rfl⟩⟩;(try first | exact ⟨rfl,_,World.drewN_drewN _ _ _⟩ | exact ⟨rfl,_,Eq.trans (World.drewN_drewN _ _ _) (congrArg (World.drewN _) (Nat.add_assoc _ _ _))⟩)) | (go_at_call 225;(with_reducible refine (yAp.calls ((rd_T58 l0 x18_1).f1) ((rd_T58 l1 x24_2).f1) t106 _ A12.out).mono ?_);rintro e w' ⟨rfl,⟨nd,rfl⟩⟩;(try first | exact ⟨rfl,_,World.drewN_drewN _ _ _⟩ | exact ⟨rfl,_,Eq.trans (World.drewN_drewN _ _ _) (congrArg (World.drewN _) (Nat.add_assoc _ _ _))⟩)) | (go_at_call 226;(with_reducible refine (yAc.calls ((rd_T58 l0 x18_1).f0) ((rd_T58 l1 x24_2).f0) t105 _ A13.out).mono ?_);rintro e w' ⟨rfl,⟨nd,rfl⟩⟩;(try first | exact ⟨rfl,_,World.drewN_drewN _ _ _⟩ | exact ⟨rfl,_,Eq.trans (World.drewN_drewN _ _ _) (congrArg (World.drewN _) (Nat.add_assoc _ _ _))⟩)));try go_quiet (first | (go_at_call 226;(with_reducible refine (yAc.calls ((rd_T58 l0 x18_1).f0) ((rd_T58 l1 x24_2).f0) t105 _ A11.out).mono ?_);rintro e w' ⟨rfl,⟨nd,rfl⟩⟩;(try first | exact ⟨rfl,_,World.drewN_drewN _ _ _⟩ | exact ⟨rfl,_,Eq.trans (World.drewN_drewN _ _ _) (congrArg (World.drewN _) (Nat.add_assoc _ _ _))⟩)) | (go_at_call 225;(with_reducible refine (yAp.calls ((rd_T58 l0 x18_1).f1) ((rd_T58 l1 x24_2).f1) t106 _ A12.out).mono ?_);rintro e w' ⟨rfl,⟨nd,rfl⟩⟩;(try first | exact ⟨rfl,_,World.drewN_drewN _ _ _⟩ | exact ⟨rfl,_,Eq.trans (World.drewN_drewN _ _ _) (congrArg (World.drewN _) (Nat.add_assoc _ _ _))⟩)) | (go_at_call 226;(with_reducible refine (yAc.calls ((rd_T58 l0 x18_1).f0) ((rd_T58 l1 x24_2).f0) t105 _ A13.out).mono ?_);rintro e w' ⟨rfl,⟨nd,rfl⟩⟩;(try first | exact ⟨rfl,_,World.drewN_drewN _ _ _⟩ | exact ⟨rfl,_,Eq.trans (World.drewN_drewN _ _ _) (congrArg (World.drewN _) (Nat.add_assoc _ _ _))⟩))))
              go_roundg k2
              case measure=>have:=HK1.out;have:=HK2.out;omega
              case rel=>exact ⟨(x7_2),(wrap64 (x8_2 + (wrap64 (t106 - t105)))),(x9_2),(wrap64 (x24_2 + 1)),(q1_),(q1_),(q1_),(q1_),H', ⟨by have:=HK1.out;have:=HK2.out;omega⟩,⟨q53_⟩,⟨q37_⟩⟩
          ·rw [if_neg c10] at H;exact absurd H (by simp)
         ·rw [if_neg c9] at H;exact absurd H (by simp)
        ·rw [if_neg c8] at H;have c8b0:=decide_eq_false c8;clear c8;have H' := Aside0.mk H;clear H;go_wp2;repeat (go_quiet (fail);try go_wp2)
         go_roundg k2
         case measure=>have:=HK1.out;have:=HK2.out;omega
         case rel=>exact ⟨(x7_2),(x8_2),(x9_2),(wrap64 (x18_1 + 1)),(q1_),(q1_),(q1_),(q1_),H', ⟨by have:=HK1.out;have:=HK2.out;omega⟩,⟨q26_⟩⟩
     ·rw [if_neg c5] at H;exact absurd H (by simp)
    ·rw [if_neg c4] at H;exact absurd H (by simp)
   ·rw [if_neg c3] at H;have c3b0:=decide_eq_false c3;clear c3;simp only [Option.some.injEq,Prod.mk.injEq] at H;obtain ⟨rfl,rfl,rfl⟩:=H;go_wp2;repeat (go_quiet (fail);try go_wp2)
    go_ret3
    exact ⟨q4_,q22_⟩
/-! ### yBA: function 104 -/
def yBA.f (k : Nat) (l0 : List (S58)) (l1 : List (S58)) : Option (Int × Bool):=(yAd.f k l0 l1).bind fun t101=>(if t101 = true then ((yAS.f k l0 l1).bind fun bt102=>(some (bt102.1,true))) else (some (0,false)))
set_option maxHeartbeats 8000000 in
set_option maxRecDepth 100000 in
theorem yBA.calls (k : Nat) (A0 : Option Addr) (c0 : Nat) (l0 : List (S58)) (A1 : Option Addr) (c1 : Nat) (l1 : List (S58)) (r1 : Int) (r2 : Bool) (w : World) (hr0 : Kd.C k58 w A0 l0.length l0) (hc0 : l0.length ≤ c0) (hr1 : Kd.C k58 w A1 l1.length l1) (hc1 : l1.length ≤ c1) (h : yBA.f k l0 l1 = some (r1,r2)) :
  Calls Try.prog 104 #[.slice A0 l0.length c0,.slice A1 l1.length c1] w fun e w' => e = .returned (.tuple #[.int .i64 r1,.bool r2]) ∧ Below w.heap.size w w' := by
 have HR0:=Aside0.mk hr0;have HC0:=Aside0.mk hc0;clear hr0 hc0;have HR1:=Aside0.mk hr1;have HC1:=Aside0.mk hc1;clear hr1 hc1;have HB:=Aside0.mk (Below.refl w.heap.size w);have H : ((yAd.f k l0 l1).bind fun t101=>(if t101 = true then ((yAS.f k l0 l1).bind fun bt102=>(some (bt102.1,true))) else (some (0,false)))) = some (r1,r2):=h;clear h;replace H:=Option.bind_eq_some_iff.mp H;obtain ⟨t101,A30,H⟩:=H;(try dsimp only at H);have A3:=Aside0.mk A30;clear A30;by_cases c4 : t101 = true
 ·subst c4;rw [if_pos rfl] at H;replace H:=Option.bind_eq_some_iff.mp H;obtain ⟨⟨t102,t103,t104⟩,A50,H⟩:=H;(try dsimp only at H);have A5:=Aside0.mk A50;clear A50;simp only [Option.some.injEq,Prod.mk.injEq] at H;obtain ⟨rfl,rfl⟩:=H;go_enter Try.func104,Try.ntmps104
  go_wp2_with (first | ((with_reducible refine gate_callee (f:=189) rfl ?_);refine goesL_ (some 11) rfl rfl Try.func189 (by kernel_rfl) rfl #[.slice A0 l0.length c0,.slice A1 l1.length c1] rfl (q23_) ?_;(with_reducible refine (yAd.calls k _ _ l0 _ _ l1 true _ ?side1 ?side2 ?side3 ?side4 A3.out).mono ?_);(case side1=>exact cX_ HR0.out);(case side2=>exact HC0.out);(case side3=>exact cX_ HR1.out);(case side4=>exact HC1.out);rintro e w6 ⟨rfl,hb⟩;refine ⟨_,rfl,?_⟩;replace HB:=bS_ HB hb;(try clear hb)) | ((with_reducible refine gate_callee (f:=206) rfl ?_);refine goesL_ (some 16) rfl rfl Try.func206 (by kernel_rfl) rfl #[.slice A0 l0.length c0,.slice A1 l1.length c1] rfl (q23_) ?_;(with_reducible refine (yAS.calls k _ _ l0 _ _ l1 t102 t103 t104 _ ?side1 ?side2 ?side3 ?side4 A5.out).mono ?_);(case side1=>exact cX_ (Kd.C_below HR0.out HB.out));(case side2=>exact HC0.out);(case side3=>exact cX_ (Kd.C_below HR1.out HB.out));(case side4=>exact HC1.out);rintro e w7 ⟨rfl,hb⟩;refine ⟨_,rfl,?_⟩;replace HB:=bS_ HB hb;(try clear hb)))
  go_ret2
  exact ⟨q4_,q22_⟩
 ·replace c4:=Bool.eq_false_iff.mpr c4;subst c4;rw [if_neg (show ¬ (false = true) by decide)] at H;simp only [Option.some.injEq,Prod.mk.injEq] at H;obtain ⟨rfl,rfl⟩:=H;go_enter Try.func104,Try.ntmps104
  go_wp2_with (first | ((with_reducible refine gate_callee (f:=189) rfl ?_);refine goesL_ (some 11) rfl rfl Try.func189 (by kernel_rfl) rfl #[.slice A0 l0.length c0,.slice A1 l1.length c1] rfl (q23_) ?_;(with_reducible refine (yAd.calls k _ _ l0 _ _ l1 false _ ?side1 ?side2 ?side3 ?side4 A3.out).mono ?_);(case side1=>exact cX_ HR0.out);(case side2=>exact HC0.out);(case side3=>exact cX_ HR1.out);(case side4=>exact HC1.out);rintro e w8 ⟨rfl,hb⟩;refine ⟨_,rfl,?_⟩;replace HB:=bS_ HB hb;(try clear hb)))
  go_ret2
  exact ⟨q4_,q22_⟩
/-! ### yA6: function 207 -/
def yA6.f (a0 : Bool) : Option (Bool):=some (!a0)
set_option maxHeartbeats 8000000 in
set_option maxRecDepth 100000 in
theorem yA6.calls (a0 : Bool) (r : Bool) (w : World) (h : yA6.f a0 = some r) :
  Calls Try.prog 207 #[.bool a0] w fun e w' => e = .returned (.bool r) ∧ Drawn0 w w' := by
 have H : (some (!a0)) = some r:=h;clear h;obtain rfl:=Option.some.inj H;go_enter Try.func207,Try.ntmps207
 go_wp2;go_ret;exact ⟨q1_,q3_⟩
/-! ### yAD: function 293 -/
mutual
def yAD.l0 : Nat → List (S58) → List (S96) → List (S58) → Int → Int → Option ((List (S96)))
 | 0,_,_,_,_,_=>none
 | k + 1,x1,x7,x13,x14,x15=>if x15 < x14 then (if 0 ≤ x15 then (if x15 < (x13.length : Int) then (yAD.l1 k x1 x7 x13 x14 x15 x1 (x1.length : Int) 0 ((rd_T58 x13 x15).f0) ((rd_T58 x13 x15).f1) ((rd_T58 x13 x15).f2)) else (none)) else (none)) else (some x7)
def yAD.l1 : Nat → List (S58) → List (S96) → List (S58) → Int → Int → List (S58) → Int → Int → Int → Int → ByteArray → Option ((List (S96)))
 | 0,_,_,_,_,_,_,_,_,_,_,_=>none
 | k + 1,x1,x7,x13,x14,x15,x19,x20,x21,x103000,x103001,x103002=>if x21 < x20 then (if 0 ≤ x21 then (if x21 < (x19.length : Int) then (if (mx x103000 ((rd_T58 x19 x21).f0)) < (mn x103001 ((rd_T58 x19 x21).f1)) then ((yA6.f (x103002.toList == ((rd_T58 x19 x21).f2).toList)).bind fun t106=>(yAD.j2 k x1 x7 x13 x14 x15 x19 x20 x21 t106 x103000 x103001 x103002 (mx x103000 ((rd_T58 x19 x21).f0)) (mn x103001 ((rd_T58 x19 x21).f1)))) else (yAD.j2 k x1 x7 x13 x14 x15 x19 x20 x21 false x103000 x103001 x103002 (mx x103000 ((rd_T58 x19 x21).f0)) (mn x103001 ((rd_T58 x19 x21).f1)))) else (none)) else (none)) else (yAD.l0 k x1 x7 x13 x14 (wrap64 (x15 + 1)))
def yAD.j2 : Nat → List (S58) → List (S96) → List (S58) → Int → Int → List (S58) → Int → Int → Bool → Int → Int → ByteArray → Int → Int → Option ((List (S96)))
 | 0,_,_,_,_,_,_,_,_,_,_,_,_,_,_=>none
 | k + 1,x1,x7,x13,x14,x15,x19,x20,x21,x49,x103000,x103001,x103002,x106000,x106001=>if x49 = true then (if x7.length < 8796093022208 then (yAD.l1 k x1 (x7 ++ [(⟨x106000,x106001⟩ : S96)]) x13 x14 x15 x19 x20 (wrap64 (x21 + 1)) x103000 x103001 x103002) else (none)) else (yAD.l1 k x1 x7 x13 x14 x15 x19 x20 (wrap64 (x21 + 1)) x103000 x103001 x103002)
end
def yAD.f (k : Nat) (l0 : List (S58)) (l1 : List (S58))  : Option ((List (S96))):=yAD.l0 k l1 ([] : List (S96)) l0 (l0.length : Int) 0
set_option maxHeartbeats 8000000 in
set_option maxRecDepth 100000 in
theorem yAD.calls (k : Nat) (A0 : Option Addr) (c0 : Nat) (l0 : List (S58)) (A1 : Option Addr) (c1 : Nat) (l1 : List (S58))  (r : List (S96)) (w : World) (hr0 : Kd.C k58 w A0 l0.length l0) (hc0 : l0.length ≤ c0) (hr1 : Kd.C k58 w A1 l1.length l1) (hc1 : l1.length ≤ c1) (h : yAD.f k l0 l1 = some r) :
  Calls Try.prog 204 #[.slice A0 l0.length c0,.slice A1 l1.length c1,.func (.func 207) #[] #[]] w fun e w' => ∃ v0_ : Value,e = .returned (v0_) ∧ Kd.R k96 96 w' w.heap.size (fun _=>True) v0_ r ∧ Below w.heap.size w w' := by
 have hu58:=Try.underlying58;have hu96:=Try.underlying96;have HR0:=Aside0.mk hr0;have HC0:=Aside0.mk hc0;clear hr0 hc0;have HR1:=Aside0.mk hr1;have HC1:=Aside0.mk hc1;clear hr1 hc1;have HB:=Aside0.mk (Below.refl w.heap.size w);have H : (yAD.l0 k l1 ([] : List (S96)) l0 (l0.length : Int) 0) = some r:=h;clear h;have H' := Aside0.mk H;clear H;go_enter Try.func204,Try.ntmps204
 go_wp2;go_loopg [7,15] k (fun kq v7 v15 w' => ∃ (x7_1 : List (S96)) (x15_1 : Int),v15 = .int .i64 x15_1 ∧ Aside0 (yAD.l0 kq l1 x7_1 l0 (l0.length : Int) x15_1 = some r) ∧ Aside0 (kq ≤ k) ∧ Aside0 (Kd.R k96 96 w' w.heap.size (fun _=>True) v7 x7_1) ∧ Aside0 (Below w.heap.size w w'))
 case atStart=>exact ⟨(([] : List (S96))),(0),(q1_),H', ⟨Nat.le_refl _⟩,⟨q24_⟩,⟨q22_⟩⟩
 case round =>
  clear H';try clear c1
  obtain ⟨x7_1,x15_1,rfl,HA,HK1,HO_7,HB⟩:=hrel;cases gk with
  | zero=>exact absurd HA.out (by simp [yAD.l0])
  | succ k1 =>
   have H:=HA.out;clear HA;simp only [yAD.l0] at H;by_cases c4 : x15_1 < (l0.length : Int)
   ·rw [if_pos c4] at H;have c4b0:=decide_eq_true c4;clear c4;by_cases c5 : 0 ≤ x15_1
    ·rw [if_pos c5] at H;have c5b0:=decide_eq_true c5;clear c5;by_cases c6 : x15_1 < (l0.length : Int)
     ·rw [if_pos c6] at H;have c6b0:=decide_eq_true c6;clear c6;have H' := Aside0.mk H;clear H;have p101 : 0 ≤ (x15_1 : Int):=of_decide_eq_true (q2_);have q101 : x15_1 < (l0.length : Int):=of_decide_eq_true (q2_);obtain ⟨ad101,e101,hx101_0,hx101_1,hx101_2⟩:=at_T58 HR0.out x15_1 p101 q101;cases e101;replace hx101_0:=hB_ HB.out hx101_0;replace hx101_1:=hB_ HB.out hx101_1;replace hx101_2:=hB_ HB.out hx101_2;replace p101:=eq_true p101;replace q101:=eq_true q101;go_wp2_with (first | ((with_reducible refine gate_dst (N:=9) rfl ?_);refine box_event ?hg (N:=9) ?hd (cs:=#[.int .i64 0,.int .i64 0,.string (⟨#[]⟩ : ByteArray)]) (t:=58) ?hr ?_;(case hd=>rfl);(case hg=>rfl);(case hr=>first | (go_simp;done) | (go_simp;rfl));intro gb102 hg w7 hbox hb;replace HO_7:=rB_ HO_7 hb;have BK102:=Aside0.mk (hbox);have GW102:=Aside0.mk ((q60_ : w.heap.size ≤ gb102));have GE102:=Aside0.mk ((q60_ : w.heap.size ≤ gb102));replace HB:=bS_ HB hb;clear hb hbox hg;obtain ⟨hcz8_0,hcz8_1,hcz8_2,hfz8_0,hfz8_1,hfz8_2⟩:=bx3_ BK102.out))
      go_loopg [7,21] k1 (fun kq v7 v21 w' => ∃ (x7_2 : List (S96)) (x21_2 : Int),v21 = .int .i64 x21_2 ∧ Aside0 (yAD.l1 kq l1 x7_2 l0 (l0.length : Int) x15_1 l1 (l1.length : Int) x21_2 ((rd_T58 l0 x15_1).f0) ((rd_T58 l0 x15_1).f1) ((rd_T58 l0 x15_1).f2) = some r) ∧ Aside0 (kq ≤ k1) ∧ Aside0 (Kd.R k96 96 w' w.heap.size (fun _=>True) v7 x7_2) ∧ Aside0 (w'.heap[gb102]? = some (.cells #[.int .i64 ((rd_T58 l0 x15_1).f0),.int .i64 ((rd_T58 l0 x15_1).f1),.string ((rd_T58 l0 x15_1).f2)] 58 (0,0))) ∧ Aside0 (Below w.heap.size w w'))
      case atStart=>exact ⟨(x7_1),(0),(q1_),H', ⟨Nat.le_refl _⟩,⟨by (with_reducible repeat (first | apply Kd.R_alloc | apply Kd.R_drewN | apply Kd.R_drew));exact Kd.R_mono (Kd.R_far (p:=⟨gb102,2,none⟩) (Kd.R_far (p:=⟨gb102,1,none⟩) (Kd.R_far (p:=⟨gb102,0,none⟩) (Kd.R_types HO_7.out BK102.out (by decide)) (fun _ hk=>hk.2) (.int .i64 ((rd_T58 l0 x15_1).f0))) (fun _ hk=>hk.2) (.int .i64 ((rd_T58 l0 x15_1).f1))) (fun _ hk=>hk.2) (.string ((rd_T58 l0 x15_1).f2))) (fun _ hk=>trivial)⟩,⟨by (with_reducible repeat (first | refine blk_drewN ?_ _ | refine blk_drew ?_ | refine blk_alloc ?_ _));refine blk_put (cs:=#[.int .i64 ((rd_T58 l0 x15_1).f0),.int .i64 ((rd_T58 l0 x15_1).f1),.string (⟨#[]⟩ : ByteArray)]) ?_ 2 _ rfl;(with_reducible repeat (first | refine blk_drewN ?_ _ | refine blk_drew ?_ | refine blk_alloc ?_ _));refine blk_put (cs:=#[.int .i64 ((rd_T58 l0 x15_1).f0),.int .i64 0,.string (⟨#[]⟩ : ByteArray)]) ?_ 1 _ rfl;(with_reducible repeat (first | refine blk_drewN ?_ _ | refine blk_drew ?_ | refine blk_alloc ?_ _));refine blk_put (cs:=#[.int .i64 0,.int .i64 0,.string (⟨#[]⟩ : ByteArray)]) ?_ 0 _ rfl;(with_reducible repeat (first | refine blk_drewN ?_ _ | refine blk_drew ?_ | refine blk_alloc ?_ _));exact BK102.out⟩,⟨q26_⟩⟩
      case round =>
       clear H';try clear c1
       try clear c4
       try clear c4b0
       try clear c5
       try clear c5b0
       try clear c6
       try clear c6b0
       try clear hcz8_0
       try clear hcz8_1
       try clear hcz8_2
       try clear hfz8_0
       try clear hfz8_1
       try clear hfz8_2
       try clear hx101_0
       try clear hx101_1
       try clear hx101_2
       try clear p101
       try clear q101
       obtain ⟨x7_2,x21_2,rfl,HA,HK2,HO_7,BK102,HB⟩:=hrel;cases gk with
       | zero=>exact absurd HA.out (by simp [yAD.l1])
       | succ k2 =>
        have H:=HA.out;clear HA;simp only [yAD.l1] at H;by_cases c9 : x21_2 < (l1.length : Int)
        ·rw [if_pos c9] at H;have c9b0:=decide_eq_true c9;clear c9;by_cases c10 : 0 ≤ x21_2
         ·rw [if_pos c10] at H;have c10b0:=decide_eq_true c10;clear c10;by_cases c11 : x21_2 < (l1.length : Int)
          ·rw [if_pos c11] at H;have c11b0:=decide_eq_true c11;clear c11;obtain ⟨ji12,hji12⟩ : ∃ j_ : Int,(mx ((rd_T58 l0 x15_1).f0) ((rd_T58 l1 x21_2).f0)) = j_:=⟨_,rfl⟩;replace H : (if (ji12) < (mn ((rd_T58 l0 x15_1).f1) ((rd_T58 l1 x21_2).f1)) then ((yA6.f (((rd_T58 l0 x15_1).f2).toList == ((rd_T58 l1 x21_2).f2).toList)).bind fun t106=>(yAD.j2 k2 l1 x7_2 l0 (l0.length : Int) x15_1 l1 (l1.length : Int) x21_2 t106 ((rd_T58 l0 x15_1).f0) ((rd_T58 l0 x15_1).f1) ((rd_T58 l0 x15_1).f2) ji12 (mn ((rd_T58 l0 x15_1).f1) ((rd_T58 l1 x21_2).f1)))) else (yAD.j2 k2 l1 x7_2 l0 (l0.length : Int) x15_1 l1 (l1.length : Int) x21_2 false ((rd_T58 l0 x15_1).f0) ((rd_T58 l0 x15_1).f1) ((rd_T58 l0 x15_1).f2) ji12 (mn ((rd_T58 l0 x15_1).f1) ((rd_T58 l1 x21_2).f1)))) = some r:=by first | (rw [hji12] at H;exact H) | (simp only [hji12] at H ⊢;exact H)
           have hji12_ : (if ((rd_T58 l0 x15_1).f0) < ((rd_T58 l1 x21_2).f0) then ((rd_T58 l1 x21_2).f0) else ((rd_T58 l0 x15_1).f0)) = ji12:=hji12;obtain ⟨ji13,hji13⟩ : ∃ j_ : Int,(mn ((rd_T58 l0 x15_1).f1) ((rd_T58 l1 x21_2).f1)) = j_:=⟨_,rfl⟩;replace H : (if (ji12) < (ji13) then ((yA6.f (((rd_T58 l0 x15_1).f2).toList == ((rd_T58 l1 x21_2).f2).toList)).bind fun t106=>(yAD.j2 k2 l1 x7_2 l0 (l0.length : Int) x15_1 l1 (l1.length : Int) x21_2 t106 ((rd_T58 l0 x15_1).f0) ((rd_T58 l0 x15_1).f1) ((rd_T58 l0 x15_1).f2) ji12 ji13)) else (yAD.j2 k2 l1 x7_2 l0 (l0.length : Int) x15_1 l1 (l1.length : Int) x21_2 false ((rd_T58 l0 x15_1).f0) ((rd_T58 l0 x15_1).f1) ((rd_T58 l0 x15_1).f2) ji12 ji13)) = some r:=by first | (rw [hji13] at H;exact H) | (simp only [hji13] at H ⊢;exact H)
           have hji13_ : (if ((rd_T58 l1 x21_2).f1) < ((rd_T58 l0 x15_1).f1) then ((rd_T58 l1 x21_2).f1) else ((rd_T58 l0 x15_1).f1)) = ji13:=hji13;have HC14:=Aside0.mk H;clear H;have p103 : 0 ≤ (x21_2 : Int):=of_decide_eq_true (q2_);have q103 : x21_2 < (l1.length : Int):=of_decide_eq_true (q2_);obtain ⟨ad103,e103,hx103_0,hx103_1,hx103_2⟩:=at_T58 HR1.out x21_2 p103 q103;cases e103;replace hx103_0:=hB_ HB.out hx103_0;replace hx103_1:=hB_ HB.out hx103_1;replace hx103_2:=hB_ HB.out hx103_2;replace p103:=eq_true p103;replace q103:=eq_true q103;go_upto_region 9 with (first | ((with_reducible refine gate_dst (N:=11) rfl ?_);refine box_event ?hg (N:=11) ?hd (cs:=#[.int .i64 0,.int .i64 0,.string (⟨#[]⟩ : ByteArray)]) (t:=58) ?hr ?_;(case hd=>rfl);(case hg=>rfl);(case hr=>first | (go_simp;done) | (go_simp;rfl));intro gb104 hg w15 hbox hb;replace HO_7:=rB_ HO_7 hb;have BK104:=Aside0.mk (hbox);have GW104:=Aside0.mk ((q62_ : w.heap.size ≤ gb104));have GE104:=Aside0.mk ((q62_ : w.heap.size ≤ gb104));replace HB:=Aside0.mk (below_step (q26_) hb);have NB102_104:=Aside0.mk ((by rw [hg];exact Nat.ne_of_lt (blk_lt (g:=gb102) (o:=.cells #[.int .i64 ((rd_T58 l0 x15_1).f0),.int .i64 ((rd_T58 l0 x15_1).f1),.string ((rd_T58 l0 x15_1).f2)] 58 (0,0)) (q19_)) : gb102 ≠ gb104));have NB104_102:=Aside0.mk ((by rw [hg];exact Nat.ne_of_gt (blk_lt (g:=gb102) (o:=.cells #[.int .i64 ((rd_T58 l0 x15_1).f0),.int .i64 ((rd_T58 l0 x15_1).f1),.string ((rd_T58 l0 x15_1).f2)] 58 (0,0)) (q19_)) : gb104 ≠ gb102));replace BK102:=bkB_ BK102 hb;clear hb hbox hg;have hnb16:=NB104_102.out;have hnc16:=NB102_104.out;obtain ⟨hcz17_0,hcz17_1,hcz17_2,hfz17_0,hfz17_1,hfz17_2⟩:=bx3_ BK104.out;obtain ⟨hcz18_0,hcz18_1,hcz18_2,hfz18_0,hfz18_1,hfz18_2⟩:=bx3_ BK102.out) | ((with_reducible refine gate_dst (N:=12) rfl ?_);refine box_event ?hg (N:=12) ?hd (cs:=#[.int .i64 0,.int .i64 0]) (t:=96) ?hr ?_;(case hd=>rfl);(case hg=>rfl);(case hr=>first | (go_simp;done) | (go_simp;rfl));intro gb105 hg w19 hbox hb;replace HO_7:=Aside0.mk (Kd.R_below (Kd.R_elderB (by (with_reducible repeat (first | apply Kd.R_alloc | apply Kd.R_drewN | apply Kd.R_drew));exact (Kd.R_mono (Kd.R_far (p:=⟨gb104,2,none⟩) (Kd.R_far (p:=⟨gb104,1,none⟩) (Kd.R_far (p:=⟨gb104,0,none⟩) (Kd.R_types HO_7.out BK104.out (by decide)) (fun _ hk=>hk.2) (.int .i64 ((rd_T58 l1 x21_2).f0))) (fun _ hk=>hk.2) (.int .i64 ((rd_T58 l1 x21_2).f1))) (fun _ hk=>hk.2) (.string ((rd_T58 l1 x21_2).f2))) (fun _ h_=>h_.1))) gb105 (Nat.le_of_eq hg.symm)) hb);have BK105:=Aside0.mk (hbox);have GW105:=Aside0.mk ((by rw [hg];exact (below_size (q37_)) : w.heap.size ≤ gb105));have GE105:=Aside0.mk ((by rw [hg];exact (below_size (q37_)) : w.heap.size ≤ gb105));replace HB:=Aside0.mk (below_step (q37_) hb);have NB102_105:=Aside0.mk ((by rw [hg];exact Nat.ne_of_lt (blk_lt (g:=gb102) (o:=.cells #[.int .i64 ((rd_T58 l0 x15_1).f0),.int .i64 ((rd_T58 l0 x15_1).f1),.string ((rd_T58 l0 x15_1).f2)] 58 (0,0)) (q53_)) : gb102 ≠ gb105));have NB105_102:=Aside0.mk ((by rw [hg];exact Nat.ne_of_gt (blk_lt (g:=gb102) (o:=.cells #[.int .i64 ((rd_T58 l0 x15_1).f0),.int .i64 ((rd_T58 l0 x15_1).f1),.string ((rd_T58 l0 x15_1).f2)] 58 (0,0)) (q53_)) : gb105 ≠ gb102));replace BK102:=Aside0.mk (blk_below (g:=gb102) (o:=.cells #[.int .i64 ((rd_T58 l0 x15_1).f0),.int .i64 ((rd_T58 l0 x15_1).f1),.string ((rd_T58 l0 x15_1).f2)] 58 (0,0)) (q53_) hb);have NB104_105:=Aside0.mk ((by rw [hg];exact Nat.ne_of_lt (blk_lt (g:=gb104) (o:=.cells #[.int .i64 ((rd_T58 l1 x21_2).f0),.int .i64 ((rd_T58 l1 x21_2).f1),.string ((rd_T58 l1 x21_2).f2)] 58 (0,0)) (q59_)) : gb104 ≠ gb105));have NB105_104:=Aside0.mk ((by rw [hg];exact Nat.ne_of_gt (blk_lt (g:=gb104) (o:=.cells #[.int .i64 ((rd_T58 l1 x21_2).f0),.int .i64 ((rd_T58 l1 x21_2).f1),.string ((rd_T58 l1 x21_2).f2)] 58 (0,0)) (q59_)) : gb105 ≠ gb104));replace BK104:=Aside0.mk (blk_below (g:=gb104) (o:=.cells #[.int .i64 ((rd_T58 l1 x21_2).f0),.int .i64 ((rd_T58 l1 x21_2).f1),.string ((rd_T58 l1 x21_2).f2)] 58 (0,0)) (q59_) hb);clear hb hbox hg;have hnb20:=NB105_102.out;have hnc20:=NB102_105.out;have hnb21:=NB105_104.out;have hnc21:=NB104_105.out;obtain ⟨hcz22_0,hcz22_1,hfz22_0,hfz22_1⟩:=bx2_ BK105.out))
           (try simp only [Act.put,List.setIfInBounds_toArray,List.set_cons_zero,List.set_cons_succ])
           go_cut [49] (fun v49 wc=>∃ (kq : Nat) (x49_13 : Bool),v49 = .bool x49_13 ∧ Aside0 (yAD.j2 kq l1 x7_2 l0 (l0.length : Int) x15_1 l1 (l1.length : Int) x21_2 x49_13 ((rd_T58 l0 x15_1).f0) ((rd_T58 l0 x15_1).f1) ((rd_T58 l0 x15_1).f2) ji12 ji13 = some r) ∧ Aside0 (kq ≤ k2) ∧ Aside0 (Kd.R k96 96 wc w.heap.size (fun k_=>k_ ≠ gb105) u7 x7_2) ∧ Aside0 (wc.heap[gb102]? = some (.cells #[.int .i64 ((rd_T58 l0 x15_1).f0),.int .i64 ((rd_T58 l0 x15_1).f1),.string ((rd_T58 l0 x15_1).f2)] 58 (0,0))) ∧ Aside0 (wc.heap[gb104]? = some (.cells #[.int .i64 ((rd_T58 l1 x21_2).f0),.int .i64 ((rd_T58 l1 x21_2).f1),.string ((rd_T58 l1 x21_2).f2)] 58 (0,0))) ∧ Aside0 (wc.heap[gb105]? = some (.cells #[.int .i64 ji12,.int .i64 ji13] 96 (0,0))) ∧ Aside0 (Below w.heap.size w wc))
           case first =>
            have H:=HC14.out;clear HC14;by_cases c23 : (ji12) < (ji13)
            ·rw [if_pos c23] at H;have c23b0:=decide_eq_true c23;clear c23
             (first | rw [c23b0] | (simp only [i64_w,i32_w];rw [c23b0]) | skip)
             replace H:=Option.bind_eq_some_iff.mp H;obtain ⟨t106,A240,H⟩:=H;(try dsimp only at H);have A24:=Aside0.mk A240;clear A240;have H' := Aside0.mk H;clear H;have hnb25:=NB105_102.out;have hnc25:=NB102_105.out;have hnb26:=NB105_104.out;have hnc26:=NB104_105.out;obtain ⟨hcz27_0,hcz27_1,hfz27_0,hfz27_1⟩:=bx2_ BK105.out;have hnb28:=NB102_104.out;have hnc28:=NB104_102.out;obtain ⟨hcz29_0,hcz29_1,hcz29_2,hfz29_0,hfz29_1,hfz29_2⟩:=bx3_ BK102.out;obtain ⟨hcz30_0,hcz30_1,hcz30_2,hfz30_0,hfz30_1,hfz30_2⟩:=bx3_ BK104.out;go_wp2_with (first | (go_at_call 207;(with_reducible refine (yA6.calls (((rd_T58 l0 x15_1).f2).toList == ((rd_T58 l1 x21_2).f2).toList) t106 _ A24.out).mono ?_);rintro e w' ⟨rfl,⟨nd,rfl⟩⟩))
             go_meet
             case rel=>exact ⟨_,(t106),(q1_),H', ⟨by have:=HK1.out;have:=HK2.out;first | omega | exact Nat.le_refl _⟩,⟨q49_⟩,⟨q50_⟩,⟨q51_⟩,⟨q52_⟩,⟨q46_⟩⟩
            ·rw [if_neg c23] at H;have c23b0:=decide_eq_false c23;clear c23
             (first | rw [c23b0] | (simp only [i64_w,i32_w];rw [c23b0]) | skip)
             have H' := Aside0.mk H;clear H;have hnb31:=NB105_102.out;have hnc31:=NB102_105.out;have hnb32:=NB105_104.out;have hnc32:=NB104_105.out;obtain ⟨hcz33_0,hcz33_1,hfz33_0,hfz33_1⟩:=bx2_ BK105.out;go_wp2;go_meet
             case rel=>exact ⟨_,(false),(q1_),H', ⟨by have:=HK1.out;have:=HK2.out;first | omega | exact Nat.le_refl _⟩,⟨q49_⟩,⟨q50_⟩,⟨q51_⟩,⟨q52_⟩,⟨q46_⟩⟩
           case rest =>
            clear HC14;try clear c1
            try clear c4
            try clear c4b0
            try clear c5
            try clear c5b0
            try clear c6
            try clear c6b0
            try clear c9
            try clear c9b0
            try clear c10
            try clear c10b0
            try clear c11
            try clear c11b0
            try clear hcz17_0
            try clear hcz17_1
            try clear hcz17_2
            try clear hcz18_0
            try clear hcz18_1
            try clear hcz18_2
            try clear hcz22_0
            try clear hcz22_1
            try clear hcz8_0
            try clear hcz8_1
            try clear hcz8_2
            try clear hfz17_0
            try clear hfz17_1
            try clear hfz17_2
            try clear hfz18_0
            try clear hfz18_1
            try clear hfz18_2
            try clear hfz22_0
            try clear hfz22_1
            try clear hfz8_0
            try clear hfz8_1
            try clear hfz8_2
            try clear hx101_0
            try clear hx101_1
            try clear hx101_2
            try clear hx103_0
            try clear hx103_1
            try clear hx103_2
            try clear p101
            try clear p103
            try clear q101
            try clear q103
            obtain ⟨kq,x49_13,rfl,HA,HJ13,HO_7,BK102,BK104,BK105,HB⟩:=hcut;cases kq with
            | zero=>exact absurd HA.out (by simp [yAD.j2])
            | succ kj13 =>
             have H:=HA.out;clear HA;simp only [yAD.j2] at H;by_cases c34 : x49_13 = true
             ·subst c34;rw [if_pos rfl] at H;by_cases c35 : x7_2.length < 8796093022208
              ·rw [if_pos c35] at H;have LMc35:=Aside0.mk c35;clear c35;obtain ⟨y107,hy107⟩ : ∃ y_ : List (S96),y_ = (x7_2 ++ [(⟨ji12,ji13⟩ : S96)]):=⟨_,rfl⟩;replace H : (yAD.l1 kj13 l1 y107 l0 (l0.length : Int) x15_1 l1 (l1.length : Int) (wrap64 (x21_2 + 1)) ((rd_T58 l0 x15_1).f0) ((rd_T58 l0 x15_1).f1) ((rd_T58 l0 x15_1).f2)) = some r:=by first | (rw [hy107];with_reducible exact H) | (have H2_:=(Option.bind_some _ _).symm.trans H;rw [hy107];with_reducible exact H2_) | (have H2_:=(Option.bind_some _ _).symm.trans H;with_reducible exact H2_) | with_reducible exact H | (rw [hy107];exact H) | exact H
               have Ny107:=Aside0.mk hy107;clear hy107;have H' := Aside0.mk H;clear H;have hnb36:=NB105_102.out;have hnc36:=NB102_105.out;have hnb37:=NB105_104.out;have hnc37:=NB104_105.out;obtain ⟨hcz38_0,hcz38_1,hfz38_0,hfz38_1⟩:=bx2_ BK105.out;go_wp2_with (first | ((with_reducible refine gate_builtin (b:=.append) (xs:=#[.tmp 50,.tmp 52]) rfl ?_);at_builtin;refine Kd.R_append k96 (w0:=w) w.heap.size rfl (.tmp 50) (.tmp 52) 91 96 (.agg #[(.int .i64 0),(.int .i64 0)]) 16 rfl Try.underlying91 info96 rfl (by decide) (by omega) u7 x7_2 (⟨ji12,ji13⟩ : S96) [.int .i64 ji12,.int .i64 ji13] (fun k_=>k_ ≠ gb105) (fun _=>False) rfl rfl ?aP (fun _ hk=>hk.elim) ?aF ?aO ?aB ?aS ?aL ?_;(case aP=>exact k96_mkM _ _ _ (⟨ji12,ji13⟩ : S96));(case aB=>exact (q46_));(case aF=>exact (fun k_ hk=>Kd.freshB (g:=gb105) (o:=.cells #[.int .i64 ji12,.int .i64 ji13] 96 (0,0)) (by (with_reducible repeat (first | refine blk_drewN ?_ _ | refine blk_drew ?_ | refine blk_alloc ?_ _));exact BK105.out) k_ hk));(case aO=>exact (q9_));(case aS=>exact (below_size (q46_)));(case aL=>have:=LMc35.out;omega);intro v108 w39 ho hb hg hat;rw [← Ny107.out] at ho;replace BK102:=Aside0.mk (blk_grown (g:=gb102) (o:=.cells #[.int .i64 ((rd_T58 l0 x15_1).f0),.int .i64 ((rd_T58 l0 x15_1).f1),.string ((rd_T58 l0 x15_1).f2)] 58 (0,0)) (q19_) hg (Kd.R_ne HO_7.out BK102.out (by decide)));replace BK104:=Aside0.mk (blk_grown (g:=gb104) (o:=.cells #[.int .i64 ((rd_T58 l1 x21_2).f0),.int .i64 ((rd_T58 l1 x21_2).f1),.string ((rd_T58 l1 x21_2).f2)] 58 (0,0)) (by (with_reducible repeat (first | refine blk_drewN ?_ _ | refine blk_drew ?_ | refine blk_alloc ?_ _));exact BK104.out) hg (Kd.R_ne HO_7.out BK104.out (by decide)));replace BK105:=Aside0.mk (blk_grown (g:=gb105) (o:=.cells #[.int .i64 ji12,.int .i64 ji13] 96 (0,0)) (by (with_reducible repeat (first | refine blk_drewN ?_ _ | refine blk_drew ?_ | refine blk_alloc ?_ _));exact BK105.out) hg (Kd.R_away HO_7.out (fun _ hk=>hk)));replace HB:=Aside0.mk (hb);have HO109:=Aside0.mk (ho);clear HO_7;clear ho hb hg hat))
               go_roundg kj13
               case measure=>have:=HK1.out;have:=HK2.out;have:=HJ13.out;omega
               case rel=>exact ⟨(y107),(wrap64 (x21_2 + 1)),(q1_),H', ⟨by have:=HK1.out;have:=HK2.out;have:=HJ13.out;omega⟩,⟨by (with_reducible repeat (first | apply Kd.R_alloc | apply Kd.R_drewN | apply Kd.R_drew));exact Kd.R_mono HO109.out (fun _ hk=>trivial)⟩,⟨q19_⟩,⟨q46_⟩⟩
              ·rw [if_neg c35] at H;exact absurd H (by simp)
             ·replace c34:=Bool.eq_false_iff.mpr c34;subst c34;rw [if_neg (show ¬ (false = true) by decide)] at H;have H' := Aside0.mk H;clear H;go_wp2;go_roundg kj13
              case measure=>have:=HK1.out;have:=HK2.out;have:=HJ13.out;omega
              case rel=>exact ⟨(x7_2),(wrap64 (x21_2 + 1)),(q1_),H', ⟨by have:=HK1.out;have:=HK2.out;have:=HJ13.out;omega⟩,⟨by (with_reducible repeat (first | apply Kd.R_alloc | apply Kd.R_drewN | apply Kd.R_drew));exact Kd.R_mono HO_7.out (fun _ hk=>trivial)⟩,⟨q19_⟩,⟨q46_⟩⟩
          ·rw [if_neg c11] at H;exact absurd H (by simp)
         ·rw [if_neg c10] at H;exact absurd H (by simp)
        ·rw [if_neg c9] at H;have c9b0:=decide_eq_false c9;clear c9;have H' := Aside0.mk H;clear H;go_wp2;go_roundg k2
         case measure=>have:=HK1.out;have:=HK2.out;omega
         case rel=>exact ⟨(x7_2),(wrap64 (x15_1 + 1)),(q1_),H', ⟨by have:=HK1.out;have:=HK2.out;omega⟩,⟨q9_⟩,⟨q26_⟩⟩
     ·rw [if_neg c6] at H;exact absurd H (by simp)
    ·rw [if_neg c5] at H;exact absurd H (by simp)
   ·rw [if_neg c4] at H;have c4b0:=decide_eq_false c4;clear c4;obtain rfl:=Option.some.inj H;go_wp2;go_ret;exact ⟨_,q4_,q9_,q22_⟩
end Go.Proofs.Ytgapcmmhbegdeaa.G
