-- Written by this session's own program over the kit's print (wip/tools/myprint.py); Lean checks it.
import Derived.Test.YtglcpghappepaaaGreatDoorMBase
import Derived.Test.YtglcpghappepaaaGreatDoorG0
import Derived.Test.YtglcpghappepaaaGreatDoorG1
import Derived.Test.YtglcpghappepaaaGreatDoorG2
import Derived.Test.YtglcpghappepaaaGreatDoorG3
namespace Go.Proofs.YtglcpghappepaaaGreatDoor.G
open Go.RowKit Go.Proofs.YtglcpghappepaaaGreatDoorW.PrintWords Go.Proofs.YtglcpghappepaaaGreatDoorW.PrintLast Go.Proofs.YtglcpghappepaaaGreatDoorW.PrintMore
attribute [local go_sem] max2_int min2_int max_two min_two max_three min_three max_four min_four str_geq str_gtr str_leq   -- for this text's walks alone
set_option linter.unusedVariables false
set_option linter.unusedSimpArgs false
/-! ### yAP: function 4 -/
def yAP.j0 : Nat → List (S25) → Int → Bool → List Int → Int → Int → Option ((List (S25)) × Int × Int × ByteArray)
 | 0,_,_,_,_,_,_=>none
 | k + 1,x5,x6,x23,x103000,x103001,x103002=>if x23 = true then (if 0 ≤ (wrap64 (x6 - 1)) then (if (wrap64 (x6 - 1)) < (x5.length : Int) then ((yAF.f x103000 x103001 x103002 3).bind fun bt113=>((yAx.f x103000 bt113.2.1 bt113.2.2 (wrap64 (((rd_T25 x5 (wrap64 (x6 - 1))).f1) + bt113.1))).bind fun bt116=>(some (x5,bt116.1,bt116.2.1,bt116.2.2.1)))) else (none)) else (none)) else ((yAF.f x103000 x103001 x103002 60).bind fun bt121=>((yAx.f x103000 bt121.2.1 bt121.2.2 bt121.1).bind fun bt124=>(some (x5,bt124.1,bt124.2.1,bt124.2.2.1))))
def yAP.f (k : Nat) (l0 : List Int) : Option ((List (S25)) × Int × Int × ByteArray):=(yAG.f k l0 0 0).bind fun bt103=>(if (bt103.1.length : Int) > 0 then ((yAJ.f k bt103.1).bind fun t108=>(if t108 = true then ((yAw.f l0 bt103.2.1 bt103.2.2 2).bind fun bt109=>(yAP.j0 k bt103.1 (bt103.1.length : Int) bt109.1 l0 bt109.2.1 bt109.2.2)) else (yAP.j0 k bt103.1 (bt103.1.length : Int) false l0 bt103.2.1 bt103.2.2))) else (yAP.j0 k bt103.1 (bt103.1.length : Int) false l0 bt103.2.1 bt103.2.2))
def yAP.T5 : Bool × List (List Nat × List Nat):=(true,[([],[]),([],[]),([],[]),([],[]),([3],[3]),([2,4],[2,4]),([5],[5]),([6],[6]),([],[]),([8],[8]),([7,9],[7,9]),([1,10,9],[1,10]),([0,11,0],[0]),([11,12,0,1,2,3,4,5,6,7,8,9,10,11,12],[11])])
def yAP.B5 : List Nat:=[0,0,0,0,8,28,60,124,0,256,1020,2046,4095,8191]
theorem yAP.tab5 : rtab .any (opsOf Tryz.f4 5) = yAP.T5:=by kernel_rfl
theorem yAP.bits5 : waitsOk yAP.T5.2 yAP.B5 = true:=by kernel_rfl
set_option maxHeartbeats 8000000 in
set_option maxRecDepth 100000 in
theorem yAP.calls (k : Nat) (A0 : Option Addr) (c0 : Nat) (l0 : List Int) (r1 : List (S25)) (r2 : Int) (r3 : Int) (r4 : ByteArray) (w : World) (hr0 : Kd.C (Kd.int .u8) w A0 l0.length l0) (hc0 : l0.length ≤ c0) (h : yAP.f k l0 = some (r1,r2,r3,r4)) :
  Calls Tryz.prog 4 #[.slice A0 l0.length c0] w fun e w' => ∃ v0_ : Value,e = .returned (.tuple #[v0_,.agg #[.int .i64 r2,.int .i64 r3,.string r4]]) ∧ Kd.R k25 25 w' w.heap.size (fun _=>True) v0_ r1 ∧ Below w.heap.size w w' := by
 have hu25:=Tryz.underlying25;have hu53:=Tryz.underlying53;have HR0:=Aside0.mk hr0;have HC0:=Aside0.mk hc0;clear hr0 hc0;have HB:=Aside0.mk (Below.refl w.heap.size w);have H : ((yAG.f k l0 0 0).bind fun bt103=>(if (bt103.1.length : Int) > 0 then ((yAJ.f k bt103.1).bind fun t108=>(if t108 = true then ((yAw.f l0 bt103.2.1 bt103.2.2 2).bind fun bt109=>(yAP.j0 k bt103.1 (bt103.1.length : Int) bt109.1 l0 bt109.2.1 bt109.2.2)) else (yAP.j0 k bt103.1 (bt103.1.length : Int) false l0 bt103.2.1 bt103.2.2))) else (yAP.j0 k bt103.1 (bt103.1.length : Int) false l0 bt103.2.1 bt103.2.2))) = some (r1,r2,r3,r4):=h;clear h;replace H:=Option.bind_eq_some_iff.mp H;obtain ⟨⟨t103,t106,t107⟩,A20,H⟩:=H;(try dsimp only at H);have A2:=Aside0.mk A20;clear A20;have HC3:=Aside0.mk H;clear H;go_enter Tryz.func4,Tryz.ntmps4
 go_upto_region 4 with (first | ((with_reducible refine gate_dst (N:=3) rfl ?_);refine box_event ?hg (N:=3) ?hd (cs:=#[.int .i64 0,.int .i64 0,.string (⟨#[]⟩ : ByteArray)]) (t:=25) ?hr ?_;(case hd=>rfl);(case hg=>rfl);(case hr=>first | (go_simp;done) | (go_simp;rfl));intro gb101 hg w4 hbox hb;have BK101:=Aside0.mk (hbox);have GW101:=Aside0.mk ((q49_ : w.heap.size ≤ gb101));have GE101:=Aside0.mk ((q49_ : w.heap.size ≤ gb101));replace HB:=bS_ HB hb;clear hb hbox hg) | ((with_reducible refine gate_dst (N:=9) rfl ?_);refine box_event ?hg (N:=9) ?hd (cs:=#[.slice A0 l0.length c0,.int .i64 0,.int .u64 0]) (t:=53) ?hr ?_;(case hd=>rfl);(case hg=>rfl);(case hr=>first | (go_simp;done) | (go_simp;rfl));intro gb102 hg w5 hbox hb;have HI102:=Aside0.mk ((show IsS53 w w5 gb102 l0 0 0 from ⟨_,_,hbox,(by rw [hg];exact (below_size (q25_))),HR0.out⟩));replace HB:=Aside0.mk (below_step (q25_) hb);have NB101_102:=Aside0.mk ((by rw [hg];exact Nat.ne_of_lt (blk_lt (g:=gb101) (o:=.cells #[.int .i64 0,.int .i64 0,.string (⟨#[]⟩ : ByteArray)] 25 (0,0)) (q17_)) : gb101 ≠ gb102));have NB102_101:=Aside0.mk ((by rw [hg];exact Nat.ne_of_gt (blk_lt (g:=gb101) (o:=.cells #[.int .i64 0,.int .i64 0,.string (⟨#[]⟩ : ByteArray)] 25 (0,0)) (q17_)) : gb102 ≠ gb101));replace BK101:=bkB_ BK101 hb;clear hb hbox hg) | ((with_reducible refine gate_callee (f:=27) rfl ?_);refine goesL_ (some 11) rfl rfl Tryz.func27 (by kernel_rfl) rfl #[.pointer (some ⟨gb102,0,none⟩)] rfl (q21_) ?_;(with_reducible refine (yAG.calls k gb102 l0 0 0 t103 t106 t107 w _ ?side1 ?side2 A2.out).mono ?_);(case side1=>exact (q42_));(case side2=>exact (q40_));rintro e w6 ⟨v104,rfl,ho0,hi,hb,hk⟩;refine ⟨_,rfl,?_⟩;have HO105:=Aside0.mk (Kd.R_lower (Kd.R_newB ho0 (g:=gb101) (o:=.cells #[.int .i64 0,.int .i64 0,.string (⟨#[]⟩ : ByteArray)] 25 (0,0)) (q17_)) (below_size (q40_)));replace BK101:=Aside0.mk (KeepBut.blk hk (g' := gb101) (o:=.cells #[.int .i64 0,.int .i64 0,.string (⟨#[]⟩ : ByteArray)] 25 (0,0)) (q17_) NB101_102.out (q1_));replace HB:=Aside0.mk (hb);replace HI102:=Aside0.mk (hi);(try clear hb);(try clear hk);(try clear hi);(try clear ho0);obtain ⟨Ao7,co7,eo7⟩:=Kd.R_slice HO105.out;subst eo7))
 (try simp only [Act.put,List.setIfInBounds_toArray,List.set_cons_zero,List.set_cons_succ])
 go_cut [23] (fun v23 wc=>∃ (kq : Nat) (x23_2 : Bool) (x103001_2 : Int) (x103002_2 : Int),v23 = .bool x23_2 ∧ Aside0 (yAP.j0 kq t103 (t103.length : Int) x23_2 l0 x103001_2 x103002_2 = some (r1,r2,r3,r4)) ∧ Aside0 (kq ≤ k) ∧ Aside0 (Kd.R k25 25 wc w.heap.size (fun k_=>k_ ≠ gb101) (.slice Ao7 t103.length co7) t103) ∧ Aside0 (wc.heap[gb101]? = some (.cells #[.int .i64 0,.int .i64 0,.string (⟨#[]⟩ : ByteArray)] 25 (0,0))) ∧ Aside0 (IsS53 w wc gb102 l0 x103001_2 x103002_2) ∧ Aside0 (Below w.heap.size w wc))
 case first =>
  have H:=HC3.out;clear HC3;by_cases c8 : (t103.length : Int) > 0
  ·rw [if_pos c8] at H;have c8b0 : decide (0 < (t103.length : Int)) = true:=decide_eq_true c8;have c8b1 : decide (0 < t103.length) = true:=decide_eq_true (by omega);clear c8
   (first | rw [c8b0] | (simp only [i64_w,i32_w];rw [c8b0]) | skip)
   replace H:=Option.bind_eq_some_iff.mp H;obtain ⟨t108,A90,H⟩:=H;(try dsimp only at H);have A9:=Aside0.mk A90;clear A90;by_cases c10 : t108 = true
   ·subst c10;rw [if_pos rfl] at H;replace H:=Option.bind_eq_some_iff.mp H;obtain ⟨⟨t109,t110,t111⟩,A110,H⟩:=H;(try dsimp only at H);have A11:=Aside0.mk A110;clear A110;have H' := Aside0.mk H;clear H;go_wp2_with (first | (go_at_call 28;(with_reducible refine (yAJ.calls k _ _ t103 true _ ?side1 ?side2 A9.out).mono ?_);(case side1=>exact cX_ (Kd.R_reads' HO105.out).2.2);(case side2=>exact (Kd.R_reads' HO105.out).2.1);rintro e w12 ⟨rfl,hb⟩;replace HO105:=rB_ HO105 hb;replace BK101:=bkB_ BK101 hb;replace HB:=Aside0.mk (below_step (q40_) hb);replace HI102:=Aside0.mk (IsS53.below (q42_) hb);(try clear hb)) | (go_at_call 29;(with_reducible refine (yAw.calls gb102 l0 t106 t107 2 t109 t110 t111 w _ ?side1 ?side2 A11.out).mono ?_);(case side1=>exact (q42_));(case side2=>exact (q40_));rintro e w13 ⟨rfl,hi,hb,hk⟩;replace BK101:=Aside0.mk (KeepBut.blk hk (g' := gb101) (o:=.cells #[.int .i64 0,.int .i64 0,.string (⟨#[]⟩ : ByteArray)] 25 (0,0)) (q17_) NB101_102.out (q1_));replace HO105:=Aside0.mk (Kd.R_mono (Kd.R_keep (IsS53.apart (show IsS53 w _ gb102 l0 t106 t107 from by exact q42_) (by (with_reducible repeat (first | apply Kd.R_alloc | apply Kd.R_drewN | apply Kd.R_drew));exact HO105.out) (by decide)) hk (fun _ h=>h.2)) (fun _ h=>h.1));replace HB:=Aside0.mk (hb);replace HI102:=Aside0.mk (hi);(try clear hb);(try clear hk);(try clear hi)))
    go_meet
    case rel=>exact ⟨_,(t109),(t110),(t111),(q3_),H', ⟨q2_⟩,⟨by (with_reducible repeat (first | apply Kd.R_alloc | apply Kd.R_drewN | apply Kd.R_drew));exact Kd.R_mono HO105.out (fun _ hk=>hk.2)⟩,⟨q17_⟩,⟨q42_⟩,⟨q40_⟩⟩
   ·replace c10:=Bool.eq_false_iff.mpr c10;subst c10;rw [if_neg (show ¬ (false = true) by decide)] at H;have H' := Aside0.mk H;clear H;go_wp2_with (first | (go_at_call 28;(with_reducible refine (yAJ.calls k _ _ t103 false _ ?side1 ?side2 A9.out).mono ?_);(case side1=>exact cX_ (Kd.R_reads' HO105.out).2.2);(case side2=>exact (Kd.R_reads' HO105.out).2.1);rintro e w14 ⟨rfl,hb⟩;replace HO105:=rB_ HO105 hb;replace BK101:=bkB_ BK101 hb;replace HB:=Aside0.mk (below_step (q40_) hb);replace HI102:=Aside0.mk (IsS53.below (q42_) hb);(try clear hb)))
    go_meet
    case rel=>exact ⟨_,(false),(t106),(t107),(q3_),H', ⟨q2_⟩,⟨by (with_reducible repeat (first | apply Kd.R_alloc | apply Kd.R_drewN | apply Kd.R_drew));exact Kd.R_mono HO105.out (fun _ hk=>hk.2)⟩,⟨q17_⟩,⟨q42_⟩,⟨q40_⟩⟩
  ·rw [if_neg c8] at H;have c8b0 : decide (0 < (t103.length : Int)) = false:=decide_eq_false c8;have c8b1 : decide (0 < t103.length) = false:=decide_eq_false (by omega);clear c8
   (first | rw [c8b0] | (simp only [i64_w,i32_w];rw [c8b0]) | skip)
   have H' := Aside0.mk H;clear H;go_wp2;go_meet
   case rel=>exact ⟨_,(false),(t106),(t107),(q3_),H', ⟨q2_⟩,⟨by (with_reducible repeat (first | apply Kd.R_alloc | apply Kd.R_drewN | apply Kd.R_drew));exact Kd.R_mono HO105.out (fun _ hk=>hk.2)⟩,⟨q17_⟩,⟨q42_⟩,⟨q40_⟩⟩
 case rest =>
  clear HC3;try clear c8
  obtain ⟨kq,x23_2,x103001_2,x103002_2,rfl,HA,HJ2,HO_5,BK101,HI102,HB⟩:=hcut;cases kq with
  | zero=>exact absurd HA.out (by simp [yAP.j0])
  | succ kj2 =>
   have H:=HA.out;clear HA;simp only [yAP.j0] at H;by_cases c15 : x23_2 = true
   ·subst c15;rw [if_pos rfl] at H;obtain ⟨ji16,hji16⟩ : ∃ j_ : Int,(wrap64 ((t103.length : Int) - 1)) = j_:=⟨_,rfl⟩;replace H : (if 0 ≤ (ji16) then (if (ji16) < (t103.length : Int) then ((yAF.f l0 x103001_2 x103002_2 3).bind fun bt113=>((yAx.f l0 bt113.2.1 bt113.2.2 (wrap64 (((rd_T25 t103 (ji16)).f1) + bt113.1))).bind fun bt116=>(some (t103,bt116.1,bt116.2.1,bt116.2.2.1)))) else (none)) else (none)) = some (r1,r2,r3,r4):=by first | (rw [hji16] at H;exact H) | (simp only [hji16] at H ⊢;exact H)
    have hji16w : (IntKind.i64.wrap ((t103.length : Int) - 1)) = ji16:=(i64_w _).trans hji16;by_cases c17 : 0 ≤ (ji16)
    ·rw [if_pos c17] at H;have c17b0:=decide_eq_true c17;clear c17;by_cases c18 : (ji16) < (t103.length : Int)
     ·rw [if_pos c18] at H;have c18b0:=decide_eq_true c18;clear c18;replace H:=Option.bind_eq_some_iff.mp H;obtain ⟨⟨t113,t114,t115⟩,A190,H⟩:=H;(try dsimp only at H);have A19:=Aside0.mk A190;clear A190;replace H:=Option.bind_eq_some_iff.mp H;obtain ⟨⟨t116,t117,t118,t119,t120⟩,A200,H⟩:=H;(try dsimp only at H);have A20:=Aside0.mk A200;clear A200;simp only [Option.some.injEq,Prod.mk.injEq] at H;obtain ⟨rfl,rfl,rfl,rfl⟩:=H;try go_wp2
      replace HO_5:=Aside0.mk (Kd.R_drew HO_5.out);replace BK101:=Aside0.mk (blk_drew BK101.out);replace HI102:=Aside0.mk (IsS53.drew HI102.out);replace HB:=Aside0.mk (below_drew1 HB.out);have p112 : 0 ≤ ((ji16) : Int):=of_decide_eq_true (q4_);have q112 : (ji16) < (t103.length : Int):=of_decide_eq_true (q4_);obtain ⟨ad112,e112,hx112_0,hx112_1,hx112_2⟩:=at_T25 (Kd.R_reads' HO_5.out).2.2 (ji16) p112 q112;cases e112;replace p112:=eq_true p112;replace q112:=eq_true q112;refine start_ (n:=14) (S:=fun w' => w'.cell? (ad112.add (((ji16)).toNat * 3)) = some (.int .i64 ((rd_T25 t103 (ji16)).f0)) ∧ w'.cell? ⟨(ad112.add (((ji16)).toNat * 3)).block,(ad112.add (((ji16)).toNat * 3)).off + 1,none⟩ = some (.int .i64 ((rd_T25 t103 (ji16)).f1)) ∧ w'.cell? ⟨(ad112.add (((ji16)).toNat * 3)).block,(ad112.add (((ji16)).toNat * 3)).off + 2,none⟩ = some (.string ((rd_T25 t103 (ji16)).f2))) (ds:=[]) f65_ (by kernel_rfl) rfl rfl ⟨hx112_0,hx112_1,hx112_2⟩ (fun hHeld=>?_);refine with_tabW yAP.tab5 yAP.bits5 (fun HT_ HW_=>?_);generalize wc.drew = w21 at HO_5 BK101 HI102 HB hx112_0 hx112_1 hx112_2 hHeld ⊢;refine pure_ (i:=0) (N:=some 24) (v:=?_) (a' := ?_) f66_ rfl rfl (any_of HT_.out (by kernel_rfl)) (fun _ _ _ h=>h) (Or.inl ⟨by rfl,?_⟩) ?_ ?_;rotate_left
      ·intro w';go_simp;with_reducible rfl
      rotate_left
      ·exact q53_
      refine pa_ 1 25 f67_ ?_
      refine pa_ 2 26 f68_ ?_
      refine pa_ 3 27 f69_ ?_
      refine pa_ 4 28 f70_ ?_
      refine pa_ 5 29 f71_ ?_
      refine pa_ 6 30 f235_ ?_
      refine pa_ 8 32 f280_ ?_
      refine take_ (i:=7) (N:=some 31) (v:=?_) (a' := ?_) f237_ rfl rfl (take_ofW HT_.out HW_.out (by kernel_rfl)) (fun _ _ _ h=>h) (Or.inl ⟨by rfl,?_⟩) hHeld ?_ ?_;rotate_left
      ·rintro w' ⟨s0,s1,s2⟩;go_simp;with_reducible rfl
      rotate_left
      ·exact q53_
      refine one_ (i:=9) (N:=some 33) f75_ rfl rfl (one_of HT_.out (by kernel_rfl)) (by decide) (fun K hK=>?_);refine goes_ Tryz.func31 (by kernel_rfl) rfl #[.pointer (some ⟨gb102,0,none⟩),.int .i64 3] (by rfl) rfl rfl (q21_) ?_
      with_reducible refine (yAF.calls gb102 l0 x103001_2 x103002_2 3 t113 t114 t115 w _ ?side1 ?side2 A19.out).mono ?_
      (case side1=>exact (q42_))
      (case side2=>exact (q40_))
      rintro e w22 ⟨rfl,hi,hb,hk⟩;have HS0_:=keep_cell hk (hHeld.1) (q50_);have HS1_:=keep_cell hk (hHeld.2.1) (q50_);have HS2_:=keep_cell hk (hHeld.2.2) (q50_);refine ⟨_,rfl,?_⟩;replace HO_5:=Aside0.mk (Kd.R_mono (Kd.R_keep (IsS53.apart (show IsS53 w _ gb102 l0 x103001_2 x103002_2 from by exact q42_) (q8_) (by decide)) hk (fun _ h=>h.2)) (fun _ h=>h.1));replace BK101:=Aside0.mk (KeepBut.blk hk (g' := gb101) (o:=.cells #[.int .i64 0,.int .i64 0,.string (⟨#[]⟩ : ByteArray)] 25 (0,0)) (q17_) NB101_102.out (q1_));replace HB:=Aside0.mk (hb);replace HI102:=Aside0.mk (hi)
      (try clear hb)
      (try clear hk)
      (try clear hi)
      refine hK.out _ _ ⟨HS0_,HS1_,HS2_⟩ (fun hHeld=>?_);clear hK K;refine norm_ (a' := ?_) ?_ ?_;rotate_left
      ·show Act.put _ (some 33) _ = _;simp only [Act.put,List.setIfInBounds_toArray,List.set_cons_zero,List.set_cons_succ,i64_w,i32_w];rfl
      refine pa_ 10 34 f76_ ?_
      refine one_ (i:=11) (N:=some 35) f77_ rfl rfl (one_of HT_.out (by kernel_rfl)) (by decide) (fun K hK=>?_);refine goes_ Tryz.func30 (by kernel_rfl) rfl #[.pointer (some ⟨gb102,0,none⟩),.int .i64 (wrap64 (((rd_T25 t103 (ji16)).f1) + t113))] (by rfl) rfl rfl (by (try simp only [List.map_toArray,List.map_cons,List.map_nil]);first | done | (simp only [hji16];rfl) | rfl | (simp only [List.length_drop,List.length_take];rfl)) ?_
      with_reducible refine (yAx.calls gb102 l0 t114 t115 (wrap64 (((rd_T25 t103 (ji16)).f1) + t113)) t116 t117 t118 t119 t120 w _ ?side1 ?side2 A20.out).mono ?_
      (case side1=>exact (q42_))
      (case side2=>exact (q40_))
      rintro e w23 ⟨rfl,hi,hb,hk⟩;have HS0_:=keep_cell hk (hHeld.1) (q50_);have HS1_:=keep_cell hk (hHeld.2.1) (q50_);have HS2_:=keep_cell hk (hHeld.2.2) (q50_);refine ⟨_,rfl,?_⟩;replace HO_5:=Aside0.mk (Kd.R_mono (Kd.R_keep (IsS53.apart (show IsS53 w _ gb102 l0 t114 t115 from by exact q42_) (q8_) (by decide)) hk (fun _ h=>h.2)) (fun _ h=>h.1));replace BK101:=Aside0.mk (KeepBut.blk hk (g' := gb101) (o:=.cells #[.int .i64 0,.int .i64 0,.string (⟨#[]⟩ : ByteArray)] 25 (0,0)) (q17_) NB101_102.out (q1_));replace HB:=Aside0.mk (hb);replace HI102:=Aside0.mk (hi)
      (try clear hb)
      (try clear hk)
      (try clear hi)
      refine hK.out _ _ ⟨HS0_,HS1_,HS2_⟩ (fun hHeld=>?_);clear hK K;refine norm_ (a' := ?_) ?_ ?_;rotate_left
      ·show Act.put _ (some 35) _ = _;simp only [Act.put,List.setIfInBounds_toArray,List.set_cons_zero,List.set_cons_succ,i64_w,i32_w];rfl
      refine pa_ 12 2 f78_ ?_
      refine one_ (i:=13) (N:=none) f79_ rfl rfl (one_of HT_.out (by kernel_rfl)) (by decide) (fun K hK=>?_);have hs24 : w23.cell? ⟨gb101,0,none⟩ = some (.int .i64 0):=(blk_cell BK101.out 0).trans rfl;have hfs24:=blk_frozen BK101.out 0;have hs25 : w23.cell? ⟨gb101,1,none⟩ = some (.int .i64 0):=(blk_cell BK101.out 1).trans rfl;have hfs25:=blk_frozen BK101.out 1;have hs26 : w23.cell? ⟨gb101,2,none⟩ = some (.string (⟨#[]⟩ : ByteArray)):=(blk_cell BK101.out 2).trans rfl;have hfs26:=blk_frozen BK101.out 2;refine skip_ (w1:=?_) (by rfl) rfl ?_ ?_;rotate_left
      ·go_simp;rfl
      refine hK.out _ _ ⟨((cell_far (p:=⟨gb101,_,none⟩) (q45_) _).trans (((cell_far (p:=⟨gb101,_,none⟩) (q45_) _).trans (((cell_far (p:=⟨gb101,_,none⟩) (q45_) _).trans (hHeld.1)))))),((cell_far (p:=⟨gb101,_,none⟩) (q45_) _).trans (((cell_far (p:=⟨gb101,_,none⟩) (q45_) _).trans (((cell_far (p:=⟨gb101,_,none⟩) (q45_) _).trans (hHeld.2.1)))))),((cell_far (p:=⟨gb101,_,none⟩) (q45_) _).trans (((cell_far (p:=⟨gb101,_,none⟩) (q45_) _).trans (((cell_far (p:=⟨gb101,_,none⟩) (q45_) _).trans (hHeld.2.2))))))⟩ (fun hHeld=>?_);clear hK K;refine done_ (done_of HT_.out (by kernel_rfl)) ?_;try go_wp2
      refine bodyPost_ret (results_tc rfl _ _ gb101 25 #[.int .i64 t116,.int .i64 t117,.string t118] (0,0) _ rfl (by (with_reducible repeat (first | refine blk_drewN ?_ _ | refine blk_drew ?_ | refine blk_alloc ?_ _));refine blk_put (cs:=#[.int .i64 t116,.int .i64 t117,.string (⟨#[]⟩ : ByteArray)]) ?_ 2 _ rfl;(with_reducible repeat (first | refine blk_drewN ?_ _ | refine blk_drew ?_ | refine blk_alloc ?_ _));refine blk_put (cs:=#[.int .i64 t116,.int .i64 0,.string (⟨#[]⟩ : ByteArray)]) ?_ 1 _ rfl;(with_reducible repeat (first | refine blk_drewN ?_ _ | refine blk_drew ?_ | refine blk_alloc ?_ _));refine blk_put (cs:=#[.int .i64 0,.int .i64 0,.string (⟨#[]⟩ : ByteArray)]) ?_ 0 _ rfl;(with_reducible repeat (first | refine blk_drewN ?_ _ | refine blk_drew ?_ | refine blk_alloc ?_ _));exact BK101.out) Tryz.underlying25 rfl (by kernel_rfl)) rfl ?_;exact ⟨_,by first | rfl | (simp [errW_none,errW_some] <;> rfl) | (simp only [← hji16];first | rfl | (simp [errW_none,errW_some] <;> rfl)) | (simp [*,errW_none,errW_some] <;> rfl),by (with_reducible repeat (first | apply Kd.R_alloc | apply Kd.R_drewN | apply Kd.R_drew));exact Kd.R_mono (Kd.R_far (p:=⟨gb101,2,none⟩) (Kd.R_far (p:=⟨gb101,1,none⟩) (Kd.R_far (p:=⟨gb101,0,none⟩) (Kd.R_mono HO_5.out (fun k_ hk=>(⟨hk,hk⟩ : _ ∧ k_ ≠ gb101))) (fun _ hk=>hk.2) (.int .i64 t116)) (fun _ hk=>hk.2) (.int .i64 t117)) (fun _ hk=>hk.2) (.string t118)) (fun _ hk=>trivial),q40_⟩
     ·rw [if_neg c18] at H;exact absurd H (q1_)
    ·rw [if_neg c17] at H;exact absurd H (q1_)
   ·replace c15:=Bool.eq_false_iff.mpr c15;subst c15;rw [if_neg (show ¬ (false = true) by decide)] at H;replace H:=Option.bind_eq_some_iff.mp H;obtain ⟨⟨t121,t122,t123⟩,A270,H⟩:=H;(try dsimp only at H);have A27:=Aside0.mk A270;clear A270;replace H:=Option.bind_eq_some_iff.mp H;obtain ⟨⟨t124,t125,t126,t127,t128⟩,A280,H⟩:=H;(try dsimp only at H);have A28:=Aside0.mk A280;clear A280;simp only [Option.some.injEq,Prod.mk.injEq] at H;obtain ⟨rfl,rfl,rfl,rfl⟩:=H;go_wp2_with (first | ((with_reducible refine gate_callee (f:=31) rfl ?_);refine goesL_ (some 39) rfl rfl Tryz.func31 (by kernel_rfl) rfl #[.pointer (some ⟨gb102,0,none⟩),.int .i64 60] rfl (q21_) ?_;(with_reducible refine (yAF.calls gb102 l0 x103001_2 x103002_2 60 t121 t122 t123 w _ ?side1 ?side2 A27.out).mono ?_);(case side1=>exact (q42_));(case side2=>exact (q40_));rintro e w29 ⟨rfl,hi,hb,hk⟩;refine ⟨_,rfl,?_⟩;replace HO_5:=Aside0.mk (Kd.R_mono (Kd.R_keep (IsS53.apart (show IsS53 w _ gb102 l0 x103001_2 x103002_2 from by exact q42_) (q8_) (by decide)) hk (fun _ h=>h.2)) (fun _ h=>h.1));replace BK101:=Aside0.mk (KeepBut.blk hk (g' := gb101) (o:=.cells #[.int .i64 0,.int .i64 0,.string (⟨#[]⟩ : ByteArray)] 25 (0,0)) (q17_) NB101_102.out (q1_));replace HB:=Aside0.mk (hb);replace HI102:=Aside0.mk (hi);(try clear hb);(try clear hk);(try clear hi)) | ((with_reducible refine gate_callee (f:=30) rfl ?_);refine goesL_ (some 40) rfl rfl Tryz.func30 (by kernel_rfl) rfl #[.pointer (some ⟨gb102,0,none⟩),.int .i64 t121] rfl (q21_) ?_;(with_reducible refine (yAx.calls gb102 l0 t122 t123 t121 t124 t125 t126 t127 t128 w _ ?side1 ?side2 A28.out).mono ?_);(case side1=>exact (q42_));(case side2=>exact (q40_));rintro e w30 ⟨rfl,hi,hb,hk⟩;refine ⟨_,rfl,?_⟩;replace HO_5:=Aside0.mk (Kd.R_mono (Kd.R_keep (IsS53.apart (show IsS53 w _ gb102 l0 t122 t123 from by exact q42_) (q8_) (by decide)) hk (fun _ h=>h.2)) (fun _ h=>h.1));replace BK101:=Aside0.mk (KeepBut.blk hk (g' := gb101) (o:=.cells #[.int .i64 0,.int .i64 0,.string (⟨#[]⟩ : ByteArray)] 25 (0,0)) (q17_) NB101_102.out (q1_));replace HB:=Aside0.mk (hb);replace HI102:=Aside0.mk (hi);(try clear hb);(try clear hk);(try clear hi);have hnb31:=NB101_102.out;have hnc31:=NB102_101.out;obtain ⟨hcz32_0,hcz32_1,hcz32_2,hfz32_0,hfz32_1,hfz32_2⟩:=bx3_ BK101.out))
    refine bodyPost_ret (results_tc rfl _ _ gb101 25 #[.int .i64 t124,.int .i64 t125,.string t126] (0,0) _ rfl (by (with_reducible repeat (first | refine blk_drewN ?_ _ | refine blk_drew ?_ | refine blk_alloc ?_ _));refine blk_put (cs:=#[.int .i64 t124,.int .i64 t125,.string (⟨#[]⟩ : ByteArray)]) ?_ 2 _ rfl;(with_reducible repeat (first | refine blk_drewN ?_ _ | refine blk_drew ?_ | refine blk_alloc ?_ _));refine blk_put (cs:=#[.int .i64 t124,.int .i64 0,.string (⟨#[]⟩ : ByteArray)]) ?_ 1 _ rfl;(with_reducible repeat (first | refine blk_drewN ?_ _ | refine blk_drew ?_ | refine blk_alloc ?_ _));refine blk_put (cs:=#[.int .i64 0,.int .i64 0,.string (⟨#[]⟩ : ByteArray)]) ?_ 0 _ rfl;(with_reducible repeat (first | refine blk_drewN ?_ _ | refine blk_drew ?_ | refine blk_alloc ?_ _));exact BK101.out) Tryz.underlying25 rfl (by kernel_rfl)) rfl ?_;exact ⟨_,q6_,by (with_reducible repeat (first | apply Kd.R_alloc | apply Kd.R_drewN | apply Kd.R_drew));exact Kd.R_mono (Kd.R_far (p:=⟨gb101,2,none⟩) (Kd.R_far (p:=⟨gb101,1,none⟩) (Kd.R_far (p:=⟨gb101,0,none⟩) (Kd.R_mono HO_5.out (fun k_ hk=>(⟨hk,hk⟩ : _ ∧ k_ ≠ gb101))) (fun _ hk=>hk.2) (.int .i64 t124)) (fun _ hk=>hk.2) (.int .i64 t125)) (fun _ hk=>hk.2) (.string t126)) (fun _ hk=>trivial),q40_⟩
/-! ### yA6: function 74 -/
def yA6.f (a0 : Int) (a1 : Int) (a2 : Int) : Option (Bool):=if a0 ≥ a1 then (some (decide (a0 ≤ a2))) else (some false)
set_option maxHeartbeats 8000000 in
set_option maxRecDepth 100000 in
theorem yA6.calls (a0 : Int) (a1 : Int) (a2 : Int) (r : Bool) (w : World) (h : yA6.f a0 a1 a2 = some r) :
  Calls Tryz.prog 74 #[.int .i64 a0,.int .i64 a1,.int .i64 a2] w fun e w' => e = .returned (.bool r) ∧ Drawn0 w w' := by
 have H : (if a0 ≥ a1 then (some (decide (a0 ≤ a2))) else (some false)) = some r:=h;clear h;by_cases c4 : a0 ≥ a1
 ·rw [if_pos c4] at H;have c4b0 : decide (a1 ≤ a0) = true:=decide_eq_true c4;clear c4;obtain rfl:=Option.some.inj H;go_enter Tryz.func74,Tryz.ntmps74
  go_wp2;go_ret;exact ⟨q3_,q5_⟩
 ·rw [if_neg c4] at H;have c4b0 : decide (a1 ≤ a0) = false:=decide_eq_false c4;clear c4;obtain rfl:=Option.some.inj H;go_enter Tryz.func74,Tryz.ntmps74
  go_wp2;go_ret;exact ⟨q3_,q5_⟩
/-! ### yAY: function 54 -/
def yAY.f (a0 : Int) : Option (Bool):=(yA6.f a0 0 99999).bind fun t101=>(some t101)
set_option maxHeartbeats 8000000 in
set_option maxRecDepth 100000 in
theorem yAY.calls (a0 : Int) (r : Bool) (w : World) (h : yAY.f a0 = some r) :
  Calls Tryz.prog 54 #[.int .i64 a0] w fun e w' => e = .returned (.bool r) ∧ Drawn0 w w' := by
 have H : ((yA6.f a0 0 99999).bind fun t101=>(some t101)) = some r:=h;clear h;replace H:=Option.bind_eq_some_iff.mp H;obtain ⟨t101,A20,H⟩:=H;(try dsimp only at H);have A2:=Aside0.mk A20;clear A20;obtain rfl:=Option.some.inj H;go_enter Tryz.func54,Tryz.ntmps54
 go_wp2_with (first | ((with_reducible refine gate_callee (f:=74) rfl ?_);refine goesL_ (some 4) rfl rfl Tryz.func74 (by kernel_rfl) rfl #[.int .i64 a0,.int .i64 0,.int .i64 99999] rfl (q21_) ?_;(with_reducible refine (yA6.calls a0 0 99999 t101 _ A2.out).mono ?_);rintro e w' ⟨rfl,⟨nd,rfl⟩⟩;refine ⟨_,rfl,?_⟩))
 go_ret;exact ⟨q3_,q5_⟩
/-! ### yA4: function 87 -/
def yA4.f (a0 : ByteArray) (a1 : Int) : Option (Int):=some (Lib.indexByte a0.data.toList a1.toNat.toUInt8)
set_option maxHeartbeats 1000000 in
set_option maxRecDepth 100000 in
theorem yA4.lite (a0 : ByteArray) (a1 : Int) (w : World) :
  Calls Tryz.prog 92 #[.string a0,.int .u8 a1] w fun e w' => e = .returned (.int .i64 (Lib.indexByte a0.data.toList a1.toNat.toUInt8)) ∧ w = w' := by
 go_enter Tryz.func92,Tryz.ntmps92
 go_wp2;rw [run_callFunc_extern Tryz.func106 (by kernel_rfl) (by kernel_rfl) (by kernel_rfl) (e:=Extern.BytealgIndexByte.indexByte) (by kernel_rfl),Lib.run_indexByteString];simp only [Result.andThen];rw [Oper.upon_value];go_wp2;go_ret;exact ⟨rfl,rfl⟩
set_option maxHeartbeats 1000000 in
set_option maxRecDepth 100000 in
theorem yA4.calls (a0 : ByteArray) (a1 : Int) (r : Int) (w : World) (h : yA4.f a0 a1 = some r) :
  Calls Tryz.prog 87 #[.string a0,.int .u8 a1] w fun e w' => e = .returned (.int .i64 r) ∧ Drawn0 w w' := by
 obtain rfl:=Option.some.inj h;clear h;go_enter Tryz.func87,Tryz.ntmps87
 go_wp2_with (go_at_call 92;refine (yA4.lite _ _ _).mono ?_;rintro e w' ⟨rfl,rfl⟩)
 go_ret;exact ⟨rfl,Drawn0.refl _⟩
/-! ### yAk: function 75 -/
def yAk.l0 : Nat → ByteArray → ByteArray → Int → Int → Option (Bool)
 | 0,_,_,_,_=>none
 | k + 1,x0,x1,x7,x8=>if x8 < x7 then (if 0 ≤ x8 then (if x8 < (x0.size : Int) then ((yA4.f x1 (bt x0 x8)).bind fun t101=>(if t101 < 0 then (some false) else (yAk.l0 k x0 x1 x7 (wrap64 (x8 + 1))))) else (none)) else (none)) else (some true)
def yAk.f (k : Nat) (a0 : ByteArray) (a1 : ByteArray) : Option (Bool):=yAk.l0 k a0 a1 (a0.size : Int) 0
set_option maxHeartbeats 8000000 in
set_option maxRecDepth 100000 in
theorem yAk.calls (k : Nat) (a0 : ByteArray) (a1 : ByteArray) (r : Bool) (w : World) (h : yAk.f k a0 a1 = some r) :
  Calls Tryz.prog 75 #[.string a0,.string a1] w fun e w' => e = .returned (.bool r) ∧ Drawn0 w w' := by
 have H : (yAk.l0 k a0 a1 (a0.size : Int) 0) = some r:=h;clear h;have H' := Aside0.mk H;clear H;go_enter Tryz.func75,Tryz.ntmps75
 go_wp2;go_loopg [8] k (fun kq v8 w' => ∃ (x8_1 : Int),v8 = .int .i64 x8_1 ∧ Aside0 (yAk.l0 kq a0 a1 (a0.size : Int) x8_1 = some r) ∧ Aside0 (kq ≤ k) ∧ Drawn0 w w')
 case atStart=>exact ⟨(0),(q3_),H', ⟨Nat.le_refl _⟩,q5_⟩
 case round =>
  clear H';obtain ⟨x8_1,rfl,HA,HK1,⟨m1,rfl⟩⟩:=hrel;cases gk with
  | zero=>exact absurd HA.out (by simp [yAk.l0])
  | succ k1 =>
   have H:=HA.out;clear HA;simp only [yAk.l0] at H;by_cases c3 : x8_1 < (a0.size : Int)
   ·rw [if_pos c3] at H;have c3b0:=decide_eq_true c3;clear c3;by_cases c4 : 0 ≤ x8_1
    ·rw [if_pos c4] at H;have c4b0:=decide_eq_true c4;clear c4;by_cases c5 : x8_1 < (a0.size : Int)
     ·rw [if_pos c5] at H;have c5b0:=decide_eq_true c5;clear c5;replace H:=Option.bind_eq_some_iff.mp H;obtain ⟨t101,A70,H⟩:=H;(try dsimp only at H);have A7:=Aside0.mk A70;clear A70;by_cases c8 : t101 < 0
      ·rw [if_pos c8] at H;have c8b0:=decide_eq_true c8;clear c8;obtain rfl:=Option.some.inj H;have p6 : 0 ≤ (x8_1 : Int):=of_decide_eq_true (q4_);have q6 : x8_1 < (a0.size : Int):=of_decide_eq_true (q4_);have hx6:=bt_at a0 x8_1;replace p6:=eq_true p6;replace q6:=eq_true q6;go_wp2_with (first | ((with_reducible refine gate_callee (f:=87) rfl ?_);refine goesL_ (some 15) rfl rfl Tryz.func87 (by kernel_rfl) rfl #[.string a1,.int .u8 (bt a0 x8_1)] rfl (q21_) ?_;(with_reducible refine (yA4.calls a1 (bt a0 x8_1) t101 _ A7.out).mono ?_);rintro e w' ⟨rfl,⟨nd,rfl⟩⟩;refine ⟨_,rfl,?_⟩))
       go_ret;exact ⟨q3_,q5_⟩
      ·rw [if_neg c8] at H;have c8b0:=decide_eq_false c8;clear c8;have H' := Aside0.mk H;clear H;have p6 : 0 ≤ (x8_1 : Int):=of_decide_eq_true (q4_);have q6 : x8_1 < (a0.size : Int):=of_decide_eq_true (q4_);have hx6:=bt_at a0 x8_1;replace p6:=eq_true p6;replace q6:=eq_true q6;go_wp2_with (first | ((with_reducible refine gate_callee (f:=87) rfl ?_);refine goesL_ (some 15) rfl rfl Tryz.func87 (by kernel_rfl) rfl #[.string a1,.int .u8 (bt a0 x8_1)] rfl (q21_) ?_;(with_reducible refine (yA4.calls a1 (bt a0 x8_1) t101 _ A7.out).mono ?_);rintro e w' ⟨rfl,⟨nd,rfl⟩⟩;refine ⟨_,rfl,?_⟩))
       go_roundg k1
       case measure=>have:=HK1.out;omega
       case rel=>exact ⟨(wrap64 (x8_1 + 1)),(q3_),H', ⟨by have:=HK1.out;omega⟩,q5_⟩
     ·rw [if_neg c5] at H;exact absurd H (q1_)
    ·rw [if_neg c4] at H;exact absurd H (q1_)
   ·rw [if_neg c3] at H;have c3b0:=decide_eq_false c3;clear c3;obtain rfl:=Option.some.inj H;go_wp2;go_ret;exact ⟨q3_,q5_⟩
/-! ### yBB: function 55 -/
def yBB.f (k : Nat) (a0 : ByteArray) (a1 : ByteArray) : Option (Bool):=(yA6.f (a0.size : Int) 1 8).bind fun t101=>(if t101 = true then ((yAk.f k a0 a1).bind fun t102=>(some t102)) else (some false))
set_option maxHeartbeats 8000000 in
set_option maxRecDepth 100000 in
theorem yBB.calls (k : Nat) (a0 : ByteArray) (a1 : ByteArray) (r : Bool) (w : World) (h : yBB.f k a0 a1 = some r) :
  Calls Tryz.prog 55 #[.string a0,.string a1] w fun e w' => e = .returned (.bool r) ∧ Drawn0 w w' := by
 have H : ((yA6.f (a0.size : Int) 1 8).bind fun t101=>(if t101 = true then ((yAk.f k a0 a1).bind fun t102=>(some t102)) else (some false))) = some r:=h;clear h;replace H:=Option.bind_eq_some_iff.mp H;obtain ⟨t101,A30,H⟩:=H;(try dsimp only at H);have A3:=Aside0.mk A30;clear A30;by_cases c4 : t101 = true
 ·subst c4;rw [if_pos rfl] at H;replace H:=Option.bind_eq_some_iff.mp H;obtain ⟨t102,A50,H⟩:=H;(try dsimp only at H);have A5:=Aside0.mk A50;clear A50;obtain rfl:=Option.some.inj H;go_enter Tryz.func55,Tryz.ntmps55
  go_wp2_with (first | ((with_reducible refine gate_callee (f:=74) rfl ?_);refine goesL_ (some 7) rfl rfl Tryz.func74 (by kernel_rfl) rfl #[.int .i64 (a0.size : Int),.int .i64 1,.int .i64 8] rfl (q21_) ?_;(with_reducible refine (yA6.calls (a0.size : Int) 1 8 true _ A3.out).mono ?_);rintro e w' ⟨rfl,⟨nd,rfl⟩⟩;refine ⟨_,rfl,?_⟩) | (go_at_call 75;(with_reducible refine (yAk.calls k a0 a1 t102 _ A5.out).mono ?_);rintro e w' ⟨rfl,⟨nd,rfl⟩⟩))
  go_ret;exact ⟨q3_,q5_⟩
 ·replace c4:=Bool.eq_false_iff.mpr c4;subst c4;rw [if_neg (show ¬ (false = true) by decide)] at H;obtain rfl:=Option.some.inj H;go_enter Tryz.func55,Tryz.ntmps55
  go_wp2_with (first | ((with_reducible refine gate_callee (f:=74) rfl ?_);refine goesL_ (some 7) rfl rfl Tryz.func74 (by kernel_rfl) rfl #[.int .i64 (a0.size : Int),.int .i64 1,.int .i64 8] rfl (q21_) ?_;(with_reducible refine (yA6.calls (a0.size : Int) 1 8 false _ A3.out).mono ?_);rintro e w' ⟨rfl,⟨nd,rfl⟩⟩;refine ⟨_,rfl,?_⟩))
  go_ret;exact ⟨q3_,q5_⟩
end Go.Proofs.YtglcpghappepaaaGreatDoor.G
