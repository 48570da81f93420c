-- Written by this session's own program over the kit's print (wip/tools/myprint.py); Lean checks it.
import Derived.Test.YtglcpghappepaaaGreatDoorMBase
import Derived.Test.YtglcpghappepaaaGreatDoorG0
import Derived.Test.YtglcpghappepaaaGreatDoorG3
import Derived.Test.YtglcpghappepaaaGreatDoorG5
import Derived.Test.YtglcpghappepaaaGreatDoorG6
import Derived.Test.YtglcpghappepaaaGreatDoorG11
namespace Go.Proofs.YtglcpghappepaaaGreatDoor.G
open Go.RowKit Go.Proofs.YtglcpghappepaaaGreatDoorW.PrintWords Go.Proofs.YtglcpghappepaaaGreatDoorW.PrintLast Go.Proofs.YtglcpghappepaaaGreatDoorW.PrintMore
attribute [local go_sem] max2_int min2_int max_two min_two max_three min_three max_four min_four str_geq str_gtr str_leq   -- for this text's walks alone
set_option linter.unusedVariables false
set_option linter.unusedSimpArgs false
/-! ### yAZ: function 5 -/
def yAZ.j0 : Nat → List (S25) → Bool → Int → Int → ByteArray → Option ((List (S25)) × Bool)
 | 0,_,_,_,_,_=>none
 | k + 1,x0,x13,x102000,x102001,x102002=>if x13 = true then (some (([] : List (S25)),false)) else ((yA3.f x0).bind fun t104=>((some (([(⟨x102000,x102001,x102002⟩ : S25)] : List (S25)) : List (S25))).bind fun y107=>(if t104.length + y107.length < 4398046511104 then ((yA9.f k (t104 ++ y107)).bind fun bt113=>(some (bt113.1,bt113.2))) else (none))))
def yAZ.f (k : Nat) (l0 : List (S25)) (a1_0 : Int) (a1_1 : Int) (a1_2 : ByteArray) : Option ((List (S25)) × Bool):=(yAH.f k l0).bind fun t102=>(if t102 = true then ((yA1.f k a1_0 a1_1 a1_2).bind fun t103=>(yAZ.j0 k l0 (!t103) a1_0 a1_1 a1_2)) else (yAZ.j0 k l0 true a1_0 a1_1 a1_2))
def yAZ.T3 : Bool × List (List Nat × List Nat):=(true,[([],[]),([0],[0]),([],[]),([2],[2]),([1,3,1],[1,3]),([4,4],[4]),([5],[5]),([5],[5]),([6,5,0,1,2,3,4,5,6,7],[6]),([7,8,0,1,2,3,4,5,6,7,8],[7])])
def yAZ.B3 : List Nat:=[0,1,0,4,15,31,63,63,255,511]
theorem yAZ.tab3 : rtab .any (opsOf Tryz.f5 3) = yAZ.T3:=by kernel_rfl
theorem yAZ.bits3 : waitsOk yAZ.T3.2 yAZ.B3 = true:=by kernel_rfl
set_option maxHeartbeats 8000000 in
set_option maxRecDepth 100000 in
theorem yAZ.calls (k : Nat) (A0 : Option Addr) (c0 : Nat) (l0 : List (S25)) (a1_0 : Int) (a1_1 : Int) (a1_2 : ByteArray) (r1 : List (S25)) (r2 : Bool) (w : World) (hr0 : Kd.C k25 w A0 l0.length l0) (hc0 : l0.length ≤ c0) (h : yAZ.f k l0 a1_0 a1_1 a1_2 = some (r1,r2)) :
  Calls Tryz.prog 5 #[.slice A0 l0.length c0,.agg #[.int .i64 a1_0,.int .i64 a1_1,.string a1_2]] w fun e w' => ∃ v0_ : Value,e = .returned (.tuple #[v0_,.bool r2]) ∧ Kd.R k25 25 w' w.heap.size (fun _=>True) v0_ r1 ∧ Below w.heap.size w w' := by
 have hu25:=Tryz.underlying25;have HR0:=Aside0.mk hr0;have HC0:=Aside0.mk hc0;clear hr0 hc0;have HB:=Aside0.mk (Below.refl w.heap.size w);have H : ((yAH.f k l0).bind fun t102=>(if t102 = true then ((yA1.f k a1_0 a1_1 a1_2).bind fun t103=>(yAZ.j0 k l0 (!t103) a1_0 a1_1 a1_2)) else (yAZ.j0 k l0 true a1_0 a1_1 a1_2))) = some (r1,r2):=h;clear h;have HC3:=Aside0.mk H;clear H;go_enter Tryz.func5,Tryz.ntmps5
 go_upto_region 1 with (first | ((with_reducible refine gate_dst (N:=3) rfl ?_);refine box_event ?hg (N:=3) ?hd (cs:=#[.int .i64 a1_0,.int .i64 a1_1,.string a1_2]) (t:=25) ?hr ?_;(case hd=>rfl);(case hg=>rfl);(case hr=>first | (go_simp;done) | (go_simp;rfl));intro gb101 hg w4 hbox hb;have BK101:=Aside0.mk (hbox);have GW101:=Aside0.mk ((q49_ : w.heap.size ≤ gb101));have GE101:=Aside0.mk ((q49_ : w.heap.size ≤ gb101));replace HB:=bS_ HB hb;clear hb hbox hg))
 (try simp only [Act.put,List.setIfInBounds_toArray,List.set_cons_zero,List.set_cons_succ])
 go_cut [13] (fun v13 wc=>∃ (kq : Nat) (x13_2 : Bool),v13 = .bool x13_2 ∧ Aside0 (yAZ.j0 kq l0 x13_2 a1_0 a1_1 a1_2 = some (r1,r2)) ∧ Aside0 (kq ≤ k) ∧ Aside0 (wc.heap[gb101]? = some (.cells #[.int .i64 a1_0,.int .i64 a1_1,.string a1_2] 25 (0,0))) ∧ Aside0 (Below w.heap.size w wc))
 case first =>
  have H:=HC3.out;clear HC3;replace H:=Option.bind_eq_some_iff.mp H;obtain ⟨t102,A50,H⟩:=H;(try dsimp only at H);have A5:=Aside0.mk A50;clear A50;by_cases c6 : t102 = true
  ·subst c6;rw [if_pos rfl] at H;replace H:=Option.bind_eq_some_iff.mp H;obtain ⟨t103,A70,H⟩:=H;(try dsimp only at H);have A7:=Aside0.mk A70;clear A70;have H' := Aside0.mk H;clear H;go_wp2_with (first | ((with_reducible refine gate_callee (f:=22) rfl ?_);refine goesL_ (some 7) rfl rfl Tryz.func22 (by kernel_rfl) rfl #[.slice A0 l0.length c0] rfl (q21_) ?_;(with_reducible refine (yAH.calls k _ _ l0 true _ ?side1 ?side2 A5.out).mono ?_);(case side1=>exact cX_ (Kd.C_below HR0.out HB.out));(case side2=>exact HC0.out);rintro e w8 ⟨rfl,hb⟩;refine ⟨_,rfl,?_⟩;replace BK101:=bkB_ BK101 hb;replace HB:=Aside0.mk (below_step (q25_) hb);(try clear hb);obtain ⟨hcz9_0,hcz9_1,hcz9_2,hfz9_0,hfz9_1,hfz9_2⟩:=bx3_ BK101.out) | (go_at_call 23;(with_reducible refine (yA1.calls k a1_0 a1_1 a1_2 t103 _ A7.out).mono ?_);rintro e w10 ⟨rfl,hb⟩;replace BK101:=bkB_ BK101 hb;replace HB:=Aside0.mk (below_step (q25_) hb);(try clear hb)))
   go_meet
   case rel=>exact ⟨_,(!t103),(q3_),H', ⟨q2_⟩,⟨q17_⟩,⟨q25_⟩⟩
  ·replace c6:=Bool.eq_false_iff.mpr c6;subst c6;rw [if_neg (show ¬ (false = true) by decide)] at H;have H' := Aside0.mk H;clear H;go_wp2_with (first | ((with_reducible refine gate_callee (f:=22) rfl ?_);refine goesL_ (some 7) rfl rfl Tryz.func22 (by kernel_rfl) rfl #[.slice A0 l0.length c0] rfl (q21_) ?_;(with_reducible refine (yAH.calls k _ _ l0 false _ ?side1 ?side2 A5.out).mono ?_);(case side1=>exact cX_ (Kd.C_below HR0.out HB.out));(case side2=>exact HC0.out);rintro e w11 ⟨rfl,hb⟩;refine ⟨_,rfl,?_⟩;replace BK101:=bkB_ BK101 hb;replace HB:=Aside0.mk (below_step (q25_) hb);(try clear hb)))
   go_meet
   case rel=>exact ⟨_,(true),(q3_),H', ⟨q2_⟩,⟨q17_⟩,⟨q25_⟩⟩
 case rest =>
  clear HC3;try clear c6
  obtain ⟨kq,x13_2,rfl,HA,HJ2,BK101,HB⟩:=hcut;cases kq with
  | zero=>exact absurd HA.out (by simp [yAZ.j0])
  | succ kj2 =>
   have H:=HA.out;clear HA;simp only [yAZ.j0] at H;by_cases c12 : x13_2 = true
   ·subst c12;rw [if_pos rfl] at H;simp only [Option.some.injEq,Prod.mk.injEq] at H;obtain ⟨rfl,rfl⟩:=H;go_wp2;go_ret2
    exact ⟨_,q6_,q22_,q25_⟩
   ·replace c12:=Bool.eq_false_iff.mpr c12;subst c12;rw [if_neg (show ¬ (false = true) by decide)] at H;replace H:=Option.bind_eq_some_iff.mp H;obtain ⟨t104,A130,H⟩:=H;(try dsimp only at H);have A13:=Aside0.mk A130;clear A130;obtain ⟨y107,hy107⟩ : ∃ y_ : List (S25),y_ = (([(⟨a1_0,a1_1,a1_2⟩ : S25)] : List (S25))):=⟨_,rfl⟩;replace H : (if t104.length + y107.length < 4398046511104 then ((yA9.f kj2 (t104 ++ y107)).bind fun bt113=>(some (bt113.1,bt113.2))) else (none)) = some (r1,r2):=by first | (rw [hy107];with_reducible exact H) | (have H2_:=(Option.bind_some _ _).symm.trans H;rw [hy107];with_reducible exact H2_) | (have H2_:=(Option.bind_some _ _).symm.trans H;with_reducible exact H2_) | with_reducible exact H | (rw [hy107];exact H) | exact H
    have Ny107:=Aside0.mk hy107;clear hy107;by_cases c14 : t104.length + y107.length < 4398046511104
    ·rw [if_pos c14] at H;have LMc14:=Aside0.mk c14;clear c14;obtain ⟨y110,hy110⟩ : ∃ y_ : List (S25),y_ = (t104 ++ y107):=⟨_,rfl⟩;replace H : ((yA9.f kj2 y110).bind fun bt113=>(some (bt113.1,bt113.2))) = some (r1,r2):=by first | (rw [hy110];with_reducible exact H) | (have H2_:=(Option.bind_some _ _).symm.trans H;rw [hy110];with_reducible exact H2_) | (have H2_:=(Option.bind_some _ _).symm.trans H;with_reducible exact H2_) | with_reducible exact H | (rw [hy110];exact H) | exact H
     have Ny110:=Aside0.mk hy110;clear hy110;replace H:=Option.bind_eq_some_iff.mp H;obtain ⟨⟨t113,t116⟩,A150,H⟩:=H;(try dsimp only at H);have A15:=Aside0.mk A150;clear A150;simp only [Option.some.injEq,Prod.mk.injEq] at H;obtain ⟨rfl,rfl⟩:=H;try go_wp2
     replace BK101:=Aside0.mk (blk_drew BK101.out);replace HB:=Aside0.mk (below_drew1 HB.out);refine start_ (n:=10) (S:=fun w' => w'.cell? ⟨gb101,0,none⟩ = some (.int .i64 a1_0) ∧ w'.cell? ⟨gb101,1,none⟩ = some (.int .i64 a1_1) ∧ w'.cell? ⟨gb101,2,none⟩ = some (.string a1_2)) (ds:=[]) f221_ (by kernel_rfl) rfl rfl ⟨(blk_cell BK101.out 0).trans rfl,(blk_cell BK101.out 1).trans rfl,(blk_cell BK101.out 2).trans rfl⟩ (fun hHeld=>?_);refine with_tabW yAZ.tab3 yAZ.bits3 (fun HT_ HW_=>?_);generalize wc.drew = w16 at BK101 HB hHeld ⊢;refine pure_ (i:=0) (N:=some 14) (v:=?_) (a' := ?_) f222_ rfl rfl (any_of HT_.out (by kernel_rfl)) (fun _ _ _ h=>h) (Or.inl ⟨by rfl,?_⟩) ?_ ?_;rotate_left
     ·intro w';go_simp;with_reducible rfl
     rotate_left
     ·exact q53_
     refine take_ (i:=2) (N:=some 16) (v:=?_) (a' := ?_) f290_ rfl rfl (take_ofW HT_.out HW_.out (by kernel_rfl)) (fun _ _ _ h=>h) (Or.inl ⟨by rfl,?_⟩) hHeld ?_ ?_;rotate_left
     ·rintro w' ⟨s0,s1,s2⟩;go_simp;with_reducible rfl
     rotate_left
     ·exact q53_
     refine join_ (σ:=Value × Value) 6 f232_ (fun s_=>[(15,s_.1),(17,s_.2)]) (fun s_ w' => (w'.cell? ⟨gb101,0,none⟩ = some (.int .i64 a1_0) ∧ w'.cell? ⟨gb101,1,none⟩ = some (.int .i64 a1_1) ∧ w'.cell? ⟨gb101,2,none⟩ = some (.string a1_2)) ∧ (Kd.R k25 25 w' w.heap.size (fun k_=>some k_ ≠ (s_.2 : Value).ownBlock ∧ k_ ≠ gb101) s_.1 t104) ∧ (Kd.R k25 25 w' w.heap.size (fun k_=>some k_ ≠ (s_.1 : Value).ownBlock ∧ k_ ≠ gb101) s_.2 y107) ∧ (w'.heap[gb101]? = some (.cells #[.int .i64 a1_0,.int .i64 a1_1,.string a1_2] 25 (0,0))) ∧ (Below w.heap.size w w')) ?_ ?_;rotate_left
     ·intro hCont;refine two_ (i:=1) (j:=3) (Ni:=some 15) (Nj:=some 17) f224_ f291_ rfl rfl rfl rfl (two_of HT_.out (by kernel_rfl)) (by decide) (by decide) (fun K hK=>?_) (fun K hK=>?_)
      ·skip
       refine goes_ Tryz.func33 (by kernel_rfl) rfl #[.slice A0 l0.length c0] (by rfl) rfl rfl (q21_) ?_
       with_reducible refine (yA3.calls _ _ l0 t104 _ ?side1 ?side2 A13.out).mono ?_
       (case side1=>exact cX_ (Kd.C_below HR0.out HB.out))
       (case side2=>exact HC0.out)
       rintro e w17 ⟨v105,rfl,ho0,hb⟩;refine ⟨_,rfl,?_⟩;have HO106:=Aside0.mk (Kd.R_lower (Kd.R_newB ho0 (g:=gb101) (o:=.cells #[.int .i64 a1_0,.int .i64 a1_1,.string a1_2] 25 (0,0)) (q17_)) (below_size (q25_)));replace BK101:=bkB_ BK101 hb;replace HB:=Aside0.mk (below_step (q25_) hb)
       (try clear hb)
       (try clear ho0)
       refine hK.out _ _ ⟨(blk_cell BK101.out 0).trans rfl,(blk_cell BK101.out 1).trans rfl,(blk_cell BK101.out 2).trans rfl⟩ (fun hHeld=>?_);clear hK K;refine norm_ (a' := ?_) ?_ ?_;rotate_left
       ·show Act.put _ (some 15) _ = _;simp only [Act.put,List.setIfInBounds_toArray,List.set_cons_zero,List.set_cons_succ,i64_w,i32_w];rfl
       refine one_ (i:=3) (N:=some 17) f232_ rfl rfl (one_of HT_.out (by kernel_rfl)) (by decide) (fun K hK=>?_);refine Kd.R_lit_step k25 _ 25 ?hg (N:=17) ?hd (xs:=([(⟨a1_0,a1_1,a1_2⟩ : S25)] : List (S25))) (inner:=[.int .i64 a1_0,.int .i64 a1_1,.string a1_2]) (ok:=fun _=>True) (okp:=fun _=>True) ?hr ?hp (fun _ hk=>hk) trivial (Below.refl _ _) (Nat.le_refl _) (q1_) ?_;(case hd=>rfl);(case hg=>rfl);(case hr=>first | (go_simp;done) | (go_simp;rfl));(case hp=>exact (Reps.c3 (show Kd.M k25 _ _ _ (⟨a1_0,a1_1,a1_2⟩ : S25) [.int .i64 a1_0,.int .i64 a1_1,.string a1_2] from (k25_mkM _ _ _ (⟨a1_0,a1_1,a1_2⟩ : S25) )) (Reps.none _ _)));intro v108 w18 ho19 hb hg_ hnew_;clear hg_ hnew_
       (first | rw [← Ny107.out] at ho19 | (simp only [Int.reduceToNat] at ho19;rw [← Ny107.out] at ho19))
       have HO109:=Aside0.mk (Kd.R_lower (Kd.R_newB (Kd.R_new' ho19 (Kd.R_lt (by (with_reducible repeat (first | apply Kd.R_alloc | apply Kd.R_drewN | apply Kd.R_drew));exact HO106.out))) (g:=gb101) (o:=.cells #[.int .i64 a1_0,.int .i64 a1_1,.string a1_2] 25 (0,0)) (q17_)) (below_size (q25_)));replace HO106:=rE_ HO106 ho19 hb;replace BK101:=bkB_ BK101 hb;replace HB:=Aside0.mk (below_step (q25_) hb);clear hb ho19;refine hK.out _ _ ⟨(blk_cell BK101.out 0).trans rfl,(blk_cell BK101.out 1).trans rfl,(blk_cell BK101.out 2).trans rfl⟩ (fun hHeld=>?_);clear hK K;refine norm_ (a' := ?_) ?_ ?_;rotate_left
       ·show Act.put _ (some 17) _ = _;simp only [Act.put,List.setIfInBounds_toArray,List.set_cons_zero,List.set_cons_succ,i64_w,i32_w];rfl
       exact norm_ (by simp only [putAll,Act.put,List.setIfInBounds_toArray,List.set_cons_zero,List.set_cons_succ]) (hCont (v105,v108) _ ⟨hHeld,(by (with_reducible repeat (first | apply Kd.R_alloc | apply Kd.R_drewN | apply Kd.R_drew));exact Kd.R_mono HO106.out (fun _ hk=>⟨hk.2,hk.1.2⟩)),(by (with_reducible repeat (first | apply Kd.R_alloc | apply Kd.R_drewN | apply Kd.R_drew));exact Kd.R_mono HO109.out (fun _ hk=>⟨hk.1.2,hk.2⟩)),(q17_),(q25_)⟩)
      ·skip
       refine Kd.R_lit_step k25 _ 25 ?hg (N:=17) ?hd (xs:=([(⟨a1_0,a1_1,a1_2⟩ : S25)] : List (S25))) (inner:=[.int .i64 a1_0,.int .i64 a1_1,.string a1_2]) (ok:=fun _=>True) (okp:=fun _=>True) ?hr ?hp (fun _ hk=>hk) trivial (Below.refl _ _) (Nat.le_refl _) (q1_) ?_;(case hd=>rfl);(case hg=>rfl);(case hr=>first | (go_simp;done) | (go_simp;rfl));(case hp=>exact (Reps.c3 (show Kd.M k25 _ _ _ (⟨a1_0,a1_1,a1_2⟩ : S25) [.int .i64 a1_0,.int .i64 a1_1,.string a1_2] from (k25_mkM _ _ _ (⟨a1_0,a1_1,a1_2⟩ : S25) )) (Reps.none _ _)));intro v108 w17 ho18 hb hg_ hnew_;clear hg_ hnew_
       (first | rw [← Ny107.out] at ho18 | (simp only [Int.reduceToNat] at ho18;rw [← Ny107.out] at ho18))
       have HO109:=Aside0.mk (Kd.R_lower (Kd.R_newB ho18 (g:=gb101) (o:=.cells #[.int .i64 a1_0,.int .i64 a1_1,.string a1_2] 25 (0,0)) (q17_)) (below_size (q25_)));replace BK101:=bkB_ BK101 hb;replace HB:=Aside0.mk (below_step (q25_) hb);clear hb ho18;refine hK.out _ _ ⟨(blk_cell BK101.out 0).trans rfl,(blk_cell BK101.out 1).trans rfl,(blk_cell BK101.out 2).trans rfl⟩ (fun hHeld=>?_);clear hK K;refine norm_ (a' := ?_) ?_ ?_;rotate_left
       ·show Act.put _ (some 17) _ = _;simp only [Act.put,List.setIfInBounds_toArray,List.set_cons_zero,List.set_cons_succ,i64_w,i32_w];rfl
       refine one_ (i:=1) (N:=some 15) f232_ rfl rfl (one_of HT_.out (by kernel_rfl)) (by decide) (fun K hK=>?_);refine goes_ Tryz.func33 (by kernel_rfl) rfl #[.slice A0 l0.length c0] (by rfl) rfl rfl (q21_) ?_
       with_reducible refine (yA3.calls _ _ l0 t104 _ ?side1 ?side2 A13.out).mono ?_
       (case side1=>exact cX_ (Kd.C_below HR0.out HB.out))
       (case side2=>exact HC0.out)
       rintro e w19 ⟨v105,rfl,ho0,hb⟩;refine ⟨_,rfl,?_⟩;have HO106:=Aside0.mk (Kd.R_lower (Kd.R_newB (Kd.R_new' ho0 (Kd.R_lt (by (with_reducible repeat (first | apply Kd.R_alloc | apply Kd.R_drewN | apply Kd.R_drew));exact HO109.out))) (g:=gb101) (o:=.cells #[.int .i64 a1_0,.int .i64 a1_1,.string a1_2] 25 (0,0)) (q17_)) (below_size (q25_)));replace HO109:=rE_ HO109 ho0 hb;replace BK101:=bkB_ BK101 hb;replace HB:=Aside0.mk (below_step (q25_) hb)
       (try clear hb)
       (try clear hk)
       (try clear ho0)
       refine hK.out _ _ ⟨(blk_cell BK101.out 0).trans rfl,(blk_cell BK101.out 1).trans rfl,(blk_cell BK101.out 2).trans rfl⟩ (fun hHeld=>?_);clear hK K;refine norm_ (a' := ?_) ?_ ?_;rotate_left
       ·show Act.put _ (some 15) _ = _;simp only [Act.put,List.setIfInBounds_toArray,List.set_cons_zero,List.set_cons_succ,i64_w,i32_w];rfl
       exact norm_ (by simp only [putAll,Act.put,List.setIfInBounds_toArray,List.set_cons_zero,List.set_cons_succ]) (hCont (v105,v108) _ ⟨hHeld,(by (with_reducible repeat (first | apply Kd.R_alloc | apply Kd.R_drewN | apply Kd.R_drew));exact Kd.R_mono HO106.out (fun _ hk=>⟨hk.1.2,hk.2⟩)),(by (with_reducible repeat (first | apply Kd.R_alloc | apply Kd.R_drewN | apply Kd.R_drew));exact Kd.R_mono HO109.out (fun _ hk=>⟨hk.2,hk.1.2⟩)),(q17_),(q25_)⟩)
     rintro ⟨v105,v108⟩ w20 ⟨hS_,h0_,h1_,h2_,h3_⟩;have n0_ : Aside0 (Kd.R k25 25 w20 w.heap.size (fun k_=>some k_ ≠ (v108 : Value).ownBlock ∧ k_ ≠ gb101) v105 t104):=⟨h0_⟩;have n1_ : Aside0 (Kd.R k25 25 w20 w.heap.size (fun k_=>some k_ ≠ (v105 : Value).ownBlock ∧ k_ ≠ gb101) v108 y107):=⟨h1_⟩;have n2_ : Aside0 (w20.heap[gb101]? = some (.cells #[.int .i64 a1_0,.int .i64 a1_1,.string a1_2] 25 (0,0))):=⟨h2_⟩;have n3_ : Aside0 (Below w.heap.size w w20):=⟨h3_⟩;clear BK101 HB h0_ h1_ h2_ h3_;have HO106:=n0_;have HO109:=n1_;have BK101:=n2_;have HB:=n3_;clear n0_ n1_ n2_ n3_;have hHeld : w20.cell? ⟨gb101,0,none⟩ = some (.int .i64 a1_0) ∧ w20.cell? ⟨gb101,1,none⟩ = some (.int .i64 a1_1) ∧ w20.cell? ⟨gb101,2,none⟩ = some (.string a1_2):=hS_;obtain ⟨Ao22,co22,eo22⟩:=Kd.R_slice HO109.out
     (first | subst eo22 | (injection eo22 with f1_ f2_ f3_;have f4_:=f1_.symm;have f5_:=f3_.symm;clear f1_ f2_ f3_;subst f4_;subst f5_))
     refine norm_ (a' := ?_) ?_ ?_;rotate_left
     ·simp only [putAll,Act.put,List.setIfInBounds_toArray,List.set_cons_zero,List.set_cons_succ];rfl
     refine one_ (i:=4) (N:=some 18) f292_ rfl rfl (one_of HT_.out (by kernel_rfl)) (by decide) (fun K hK=>?_);refine Kd.R_append_rows_step k25 (w0:=w) w.heap.size (by rfl) (.tmp 15) (.tmp 17) 23 25 (.agg #[(.int .i64 0),(.int .i64 0),(.string ⟨#[]⟩)]) 32 rfl Tryz.underlying23 info25 rfl (by decide) (by omega) v105 t104 y107 _ _ _ (fun k_=>some k_ ≠ (.slice Ao22 y107.length co22 : Value).ownBlock ∧ k_ ≠ gb101) (fun _=>False) rfl rfl ?aO ?aR (fun _ _ h=>h) (fun _ h=>h.elim) ?aF ?aB ?aS ?aL ?_
     (case aR=>exact cX_ (Kd.R_reads' HO109.out).2.2)
     (case aB=>exact (q25_))
     (case aF=>exact (fun k_ hk=>⟨Kd.fresh' (Kd.R_lt (by (with_reducible repeat (first | apply Kd.R_alloc | apply Kd.R_drewN | apply Kd.R_drew));exact HO109.out)) k_ hk,Kd.freshB (g:=gb101) (o:=.cells #[.int .i64 a1_0,.int .i64 a1_1,.string a1_2] 25 (0,0)) (q17_) k_ hk⟩))
     (case aO=>exact (by (with_reducible repeat (first | apply Kd.R_alloc | apply Kd.R_drewN | apply Kd.R_drew));exact HO106.out))
     (case aS=>exact (below_size (q25_)))
     (case aL=>have:=LMc14.out;omega)
     intro v111 w21 ho hb hg hat;rw [← Ny110.out] at ho;replace BK101:=Aside0.mk (blk_grown (g:=gb101) (o:=.cells #[.int .i64 a1_0,.int .i64 a1_1,.string a1_2] 25 (0,0)) (q17_) hg (Kd.R_away HO106.out (fun _ hk=>hk.2)));replace HO109:=Aside0.mk (Kd.R_after (ok:=(fun k_=>k_ ≠ gb101)) (by (with_reducible repeat (first | apply Kd.R_alloc | apply Kd.R_drewN | apply Kd.R_drew));exact Kd.R_mono HO109.out (fun _ hk=>⟨hk.2,hk.1⟩)) hg hat);replace HB:=Aside0.mk (hb);have HO112:=Aside0.mk (ho);clear HO106 ho hb hg hat;obtain ⟨Ao23,co23,eo23⟩:=Kd.R_slice HO112.out
     (first | subst eo23 | (injection eo23 with f1_ f2_ f3_;have f4_:=f1_.symm;have f5_:=f3_.symm;clear f1_ f2_ f3_;subst f4_;subst f5_))
     refine hK.out _ _ ⟨(blk_cell BK101.out 0).trans rfl,(blk_cell BK101.out 1).trans rfl,(blk_cell BK101.out 2).trans rfl⟩ (fun hHeld=>?_);clear hK K;refine norm_ (a' := ?_) ?_ ?_;rotate_left
     ·show Act.put _ (some 18) _ = _;simp only [Act.put,List.setIfInBounds_toArray,List.set_cons_zero,List.set_cons_succ,i64_w,i32_w];rfl
     refine one_ (i:=5) (N:=some 19) f227_ rfl rfl (one_of HT_.out (by kernel_rfl)) (by decide) (fun K hK=>?_);refine goes_ Tryz.func32 (by kernel_rfl) rfl #[.slice Ao23 y110.length co23] (by rfl) rfl rfl (q21_) ?_
     with_reducible refine (yA9.calls kj2 (fun k_=>some k_ = (.slice Ao23 y110.length co23 : Value).ownBlock) (.slice Ao23 y110.length co23) y110 t113 t116 w _ ?side1 ?side2 A15.out).mono ?_
     (case side1=>repeat (first | (with_reducible first | exact HB.out | apply below_alloc | apply pw_below_drewN | apply below_drew1 | refine below_set ?_ GE101.out) | exact HB.out))
     (case side2=>exact Kd.R_tight rfl HO112.out)
     rintro e w24 ⟨v114,rfl,ho0,hb,hkp⟩;refine ⟨_,rfl,?_⟩;have HO115:=Aside0.mk (Kd.R_mono (ok' := fun k_=>some k_ ≠ (.slice Ao22 y107.length co22 : Value).ownBlock ∧ k_ ≠ gb101) ho0 (fun k_ hk_=>⟨Or.elim hk_ (fun hs_=>fun e_=>(((HO109.out).1 k_ e_.symm).2) hs_) (fun hn_=>(Kd.fresh' (Kd.R_lt (by (with_reducible repeat (first | apply Kd.R_alloc | apply Kd.R_drewN | apply Kd.R_drew));exact HO109.out)) k_ hn_)),Or.elim hk_ (fun hs_=>fun e_=>(Kd.R_away HO112.out (fun _ hk=>hk.2)) (by rw [← e_];exact hs_)) (fun hn_=>(Kd.freshB (g:=gb101) (o:=.cells #[.int .i64 a1_0,.int .i64 a1_1,.string a1_2] 25 (0,0)) (q17_) k_ hn_))⟩));replace BK101:=Aside0.mk (blk_kept (q17_) hkp (fun hs_=>(fun e_=>(Kd.R_away HO112.out (fun _ hk=>hk.2)) e_) hs_));replace HO109:=Aside0.mk (Kd.R_mono (ok' := fun k_=>k_ ≠ gb101 ∧ some k_ ≠ (v114 : Value).ownBlock) (Kd.R_keptB (HO109.out) hkp (fun k_ hk_ hs_=>(hk_.2) hs_)) (fun k_ hk_=>⟨hk_.1.1,fun e_=>Or.elim (ho0.1 k_ e_.symm) (fun hs_=>hk_.2.1 hs_) (fun hn_=>Nat.not_le.2 hk_.2.2 hn_)⟩));replace HB:=Aside0.mk (hb);clear HO112
     (try clear hb)
     (try clear hkp)
     (try clear ho0)
     refine hK.out _ _ ⟨(blk_cell BK101.out 0).trans rfl,(blk_cell BK101.out 1).trans rfl,(blk_cell BK101.out 2).trans rfl⟩ (fun hHeld=>?_);clear hK K;refine norm_ (a' := ?_) ?_ ?_;rotate_left
     ·show Act.put _ (some 19) _ = _;simp only [Act.put,List.setIfInBounds_toArray,List.set_cons_zero,List.set_cons_succ,i64_w,i32_w];rfl
     refine pa_ 6 20 f228_ ?_
     refine pa_ 7 21 f229_ ?_
     refine pa_ 8 4 f230_ ?_
     refine pa_ 9 5 f231_ ?_
     refine done_ (done_of HT_.out (by kernel_rfl)) ?_;try go_wp2
     go_ret2
     exact ⟨_,q6_,by (with_reducible repeat (first | apply Kd.R_alloc | apply Kd.R_drewN | apply Kd.R_drew));exact Kd.R_mono HO115.out (fun _ hk=>trivial),q25_⟩
    ·rw [if_neg c14] at H;exact absurd H (q1_)
/-! ### yBJ: function 35 -/
def yBJ.f (k : Nat) (l0 : List (S25)) : Option ((List (S25)) × Bool):=(yAJ.f k l0).bind fun t101=>(if t101 = true then (some (l0,true)) else (some (([] : List (S25)),false)))
set_option maxHeartbeats 8000000 in
set_option maxRecDepth 100000 in
theorem yBJ.calls (k : Nat) (P0_ : Nat → Prop) (u9000_ : Value) (l0 : List (S25)) (r1 : List (S25)) (r2 : Bool) (w0 w : World) (hB : Below w0.heap.size w0 w) (ho0 : Kd.R k25 25 w w0.heap.size P0_ u9000_ l0) (h : yBJ.f k l0 = some (r1,r2)) :
  Calls Tryz.prog 35 #[u9000_] w fun e w' => ∃ v0_ : Value,e = .returned (.tuple #[v0_,.bool r2]) ∧ Kd.R k25 25 w' w0.heap.size (fun k_=>(P0_ k_ ∨ w.heap.size ≤ k_)) v0_ r1 ∧ Below w0.heap.size w0 w' ∧ Kept w w' (fun k_=>P0_ k_):=by
 have HO0:=Aside0.mk (show Kd.R k25 25 w w0.heap.size (fun k_=>(P0_ k_ ∨ w.heap.size ≤ k_)) u9000_ l0 from Kd.R_mono ho0 (fun k_ hk=>(.inl hk)));have HK:=Aside0.mk (Kept.refl w (fun k_=>P0_ k_));have HW0:=Aside0.mk hB.size;have HB:=Aside0.mk hB;clear hB;have H : ((yAJ.f k l0).bind fun t101=>(if t101 = true then (some (l0,true)) else (some (([] : List (S25)),false)))) = some (r1,r2):=h;clear h;replace H:=Option.bind_eq_some_iff.mp H;obtain ⟨t101,A20,H⟩:=H;(try dsimp only at H);have A2:=Aside0.mk A20;clear A20;by_cases c3 : t101 = true
 ·subst c3;rw [if_pos rfl] at H;simp only [Option.some.injEq,Prod.mk.injEq] at H;obtain ⟨rfl,rfl⟩:=H;obtain ⟨Ao4,co4,eo4⟩:=Kd.R_slice HO0.out;subst eo4;go_enter Tryz.func35,Tryz.ntmps35
  go_wp2_with (first | ((with_reducible refine gate_callee (f:=28) rfl ?_);refine goesL_ (some 5) rfl rfl Tryz.func28 (by kernel_rfl) rfl #[.slice Ao4 l0.length co4] rfl (q21_) ?_;(with_reducible refine (yAJ.calls k _ _ l0 true _ ?side1 ?side2 A2.out).mono ?_);(case side1=>exact cX_ (Kd.R_reads' HO0.out).2.2);(case side2=>exact (Kd.R_reads' HO0.out).2.1);rintro e w5 ⟨rfl,hb⟩;refine ⟨_,rfl,?_⟩;replace HO0:=rB_ HO0 hb;replace HK:=Aside0.mk (Kept.below (S:=(fun k_=>P0_ k_)) (q19_) hb);replace HB:=bS_ HB hb;(try clear hb)))
  go_ret2
  exact ⟨_,q6_,q7_,q20_,q19_⟩
 ·replace c3:=Bool.eq_false_iff.mpr c3;subst c3;rw [if_neg (show ¬ (false = true) by decide)] at H;simp only [Option.some.injEq,Prod.mk.injEq] at H;obtain ⟨rfl,rfl⟩:=H;obtain ⟨Ao6,co6,eo6⟩:=Kd.R_slice HO0.out;subst eo6;go_enter Tryz.func35,Tryz.ntmps35
  go_wp2_with (first | ((with_reducible refine gate_callee (f:=28) rfl ?_);refine goesL_ (some 5) rfl rfl Tryz.func28 (by kernel_rfl) rfl #[.slice Ao6 l0.length co6] rfl (q21_) ?_;(with_reducible refine (yAJ.calls k _ _ l0 false _ ?side1 ?side2 A2.out).mono ?_);(case side1=>exact cX_ (Kd.R_reads' HO0.out).2.2);(case side2=>exact (Kd.R_reads' HO0.out).2.1);rintro e w7 ⟨rfl,hb⟩;refine ⟨_,rfl,?_⟩;replace HO0:=rB_ HO0 hb;replace HK:=Aside0.mk (Kept.below (S:=(fun k_=>P0_ k_)) (q19_) hb);replace HB:=bS_ HB hb;(try clear hb)))
  go_ret2
  exact ⟨_,q6_,q22_,q20_,q19_⟩
end Go.Proofs.YtglcpghappepaaaGreatDoor.G
