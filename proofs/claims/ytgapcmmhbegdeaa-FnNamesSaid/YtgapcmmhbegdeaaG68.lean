-- Written by this session's own program over the kit's print (wip/tools/myprint.py); Lean checks it.
import Derived.Test.YtgapcmmhbegdeaaMBase
import Derived.Test.YtgapcmmhbegdeaaG0
import Derived.Test.YtgapcmmhbegdeaaG64
import Derived.Test.YtgapcmmhbegdeaaG65
import Derived.Test.YtgapcmmhbegdeaaG92
namespace Go.Proofs.Ytgapcmmhbegdeaa.G
open Go.RowKit Go.Proofs.YtgapcmmhbegdeaaW.PrintWords Go.Proofs.YtgapcmmhbegdeaaW.PrintLast Go.Proofs.YtgapcmmhbegdeaaW.PrintMore
attribute [local go_sem] max2_int min2_int max_two min_two max_three min_three max_four min_four str_geq str_gtr str_leq   -- for this text's walks alone
set_option linter.unusedVariables false
set_option linter.unusedSimpArgs false
attribute [local go_sem high] eqA77
/-! ### spec_ClashesOf: function 54 -/
mutual
def spec_ClashesOf.l0 : Nat → List (S77) → List (List Int) → Int → Int → Option ((List (List Int)) × Bool)
 | 0,_,_,_,_=>none
 | k + 1,x0,x4,x11,x12=>if x12 < x11 then (spec_ClashesOf.l1 k x0 x4 x12 (wrap64 (x12 + 1)) x11 x12) else (some (x4,true))
def spec_ClashesOf.l1 : Nat → List (S77) → List (List Int) → Int → Int → Int → Int → Option ((List (List Int)) × Bool)
 | 0,_,_,_,_,_,_=>none
 | k + 1,x0,x4,x5,x6,x11,x12=>if x6 < (x0.length : Int) then (if 0 ≤ x5 then (if x5 < (x0.length : Int) then (if 0 ≤ x6 then ((spec_naClash.f ((rd_T77 x0 x5).f0) ((rd_T77 x0 x5).f1) ((rd_T77 x0 x5).f2) ((rd_T77 x0 x5).f3) ((rd_T77 x0 x6).f0) ((rd_T77 x0 x6).f1) ((rd_T77 x0 x6).f2) ((rd_T77 x0 x6).f3)).bind fun t104=>(if t104 = true then (if x4.length < 5864062014805 then (spec_ClashesOf.l1 k x0 (x4 ++ [(([x5,x6] : List Int))]) x5 (wrap64 (x6 + 1)) x11 x12) else (none)) else (spec_ClashesOf.l1 k x0 x4 x5 (wrap64 (x6 + 1)) x11 x12))) else (none)) else (none)) else (none)) else (spec_ClashesOf.l0 k x0 x4 x11 (wrap64 (x12 + 1)))
end
def spec_ClashesOf.f (k : Nat) (l0 : List (S77)) : Option ((List (List Int)) × Bool):=(spec_naGood.f k l0).bind fun t101=>(if t101 = true then (spec_ClashesOf.l0 k l0 ([] : List (List Int)) (l0.length : Int) 0) else (some (([] : List (List Int)),false)))
def spec_ClashesOf.T10 : Bool × List (List Nat × List Nat):=(true,[([],[]),([],[]),([0,1],[0,1]),([2],[2]),([],[]),([],[]),([4,5],[4,5]),([6],[6]),([3,7],[3,7])])
def spec_ClashesOf.B10 : List Nat:=[0,0,3,7,0,0,48,112,255]
theorem spec_ClashesOf.tab10 : rtab .any (opsOf Try.f54 10) = spec_ClashesOf.T10:=by kernel_rfl
theorem spec_ClashesOf.bits10 : waitsOk spec_ClashesOf.T10.2 spec_ClashesOf.B10 = true:=by kernel_rfl
set_option maxHeartbeats 8000000 in
set_option maxRecDepth 100000 in
theorem spec_ClashesOf.calls (k : Nat) (A0 : Option Addr) (c0 : Nat) (l0 : List (S77)) (r1 : List (List Int)) (r2 : Bool) (w : World) (hr0 : Kd.C k77 w A0 l0.length l0) (hc0 : l0.length ≤ c0) (h : spec_ClashesOf.f k l0 = some (r1,r2)) :
  Calls Try.prog 54 #[.slice A0 l0.length c0] w fun e w' => ∃ v0_ : Value,e = .returned (.tuple #[v0_,.bool r2]) ∧ Kd.S (Kd.slice 3 (Kd.int .i64)) 65 w' w.heap.size (fun _=>True) v0_ r1 ∧ Below w.heap.size w w' := by
 have hu77:=Try.underlying77;have HR0:=Aside0.mk hr0;have HC0:=Aside0.mk hc0;clear hr0 hc0;have HB:=Aside0.mk (Below.refl w.heap.size w);have H : ((spec_naGood.f k l0).bind fun t101=>(if t101 = true then (spec_ClashesOf.l0 k l0 ([] : List (List Int)) (l0.length : Int) 0) else (some (([] : List (List Int)),false)))) = some (r1,r2):=h;clear h;replace H:=Option.bind_eq_some_iff.mp H;obtain ⟨t101,A20,H⟩:=H;(try dsimp only at H);have A2:=Aside0.mk A20;clear A20;by_cases c3 : t101 = true
 ·subst c3;have H1 : (spec_ClashesOf.l0 k l0 ([] : List (List Int)) (l0.length : Int) 0) = some (r1,r2):=by rw [if_pos rfl] at H;exact H
  clear H;have H:=H1;clear H1;have H' := Aside0.mk H;clear H;go_enter Try.func54,Try.ntmps54
  go_wp2_with (first | ((with_reducible refine gate_callee (f:=162) rfl ?_);refine goesL_ (some 8) rfl rfl Try.func162 (by kernel_rfl) rfl #[.slice A0 l0.length c0] rfl (q22_) ?_;(with_reducible refine (spec_naGood.calls k _ _ l0 true _ ?side1 ?side2 A2.out).mono ?_);(case side1=>exact cX_ HR0.out);(case side2=>exact HC0.out);rintro e w4 ⟨rfl,hb⟩;refine ⟨_,rfl,?_⟩;replace HB:=bS_ HB hb;(try clear hb)))
  go_loopg [4,12] k (fun kq v4 v12 w' => ∃ (x4_1 : List (List Int)) (x12_1 : Int),v12 = .int .i64 x12_1 ∧ Aside0 (spec_ClashesOf.l0 kq l0 x4_1 (l0.length : Int) x12_1 = some (r1,r2)) ∧ Aside0 (kq ≤ k) ∧ Aside0 (Kd.S (Kd.slice 3 (Kd.int .i64)) 65 w' w.heap.size (fun _=>True) v4 x4_1) ∧ Aside0 (Below w.heap.size w w'))
  case atStart=>exact ⟨(([] : List (List Int))),(0),(q1_),H', ⟨Nat.le_refl _⟩,⟨by first | exact Kd.S_nil _ _ _ _ _ | exact Kd.N_nil _ _ _ _ _ | exact Kd.V_nil _ _ _ _ _ | exact Kd.Q_nil _ _ _ _ _ | exact Kd.R_nil _ _ _ _ _⟩,⟨q21_⟩⟩
  case round =>
   clear H';try clear c3
   obtain ⟨x4_1,x12_1,rfl,HA,HK1,HO_4,HB⟩:=hrel;cases gk with
   | zero=>exact absurd HA.out (by simp [spec_ClashesOf.l0])
   | succ k1 =>
    have H:=HA.out;clear HA;simp only [spec_ClashesOf.l0] at H;by_cases c5 : x12_1 < (l0.length : Int)
    ·rw [if_pos c5] at H;have c5b0 : decide (x12_1 < (l0.length : Int)) = true:=decide_eq_true c5;clear c5;have H' := Aside0.mk H;clear H;go_wp2;go_loopg [4,6] k1 (fun kq v4 v6 w' => ∃ (x4_2 : List (List Int)) (x6_2 : Int),v6 = .int .i64 x6_2 ∧ Aside0 (spec_ClashesOf.l1 kq l0 x4_2 x12_1 x6_2 (l0.length : Int) x12_1 = some (r1,r2)) ∧ Aside0 (kq ≤ k1) ∧ Aside0 (Kd.S (Kd.slice 3 (Kd.int .i64)) 65 w' w.heap.size (fun _=>True) v4 x4_2) ∧ Aside0 (Below w.heap.size w w'))
     case atStart=>exact ⟨(x4_1),(wrap64 (x12_1 + 1)),(q1_),H', ⟨Nat.le_refl _⟩,⟨q8_⟩,⟨q21_⟩⟩
     case round =>
      clear H';try clear c3
      try clear c5
      try clear c5b0
      obtain ⟨x4_2,x6_2,rfl,HA,HK2,HO_4,HB⟩:=hrel;cases gk with
      | zero=>exact absurd HA.out (by simp [spec_ClashesOf.l1])
      | succ k2 =>
       have H:=HA.out;clear HA;simp only [spec_ClashesOf.l1] at H;by_cases c6 : x6_2 < (l0.length : Int)
       ·rw [if_pos c6] at H;have c6b0 : decide (x6_2 < (l0.length : Int)) = true:=decide_eq_true c6;clear c6;by_cases c7 : 0 ≤ x12_1
        ·rw [if_pos c7] at H;have c7b0 : decide (0 ≤ x12_1) = true:=decide_eq_true c7;clear c7;by_cases c8 : x12_1 < (l0.length : Int)
         ·rw [if_pos c8] at H;have c8b0 : decide (x12_1 < (l0.length : Int)) = true:=decide_eq_true c8;clear c8;by_cases c9 : 0 ≤ x6_2
          ·rw [if_pos c9] at H;have c9b0 : decide (0 ≤ x6_2) = true:=decide_eq_true c9;clear c9;replace H:=Option.bind_eq_some_iff.mp H;obtain ⟨t104,A100,H⟩:=H;(try dsimp only at H);have A10:=Aside0.mk A100;clear A100;by_cases c11 : t104 = true
           ·subst c11;have H1 : (if x4_2.length < 5864062014805 then (spec_ClashesOf.l1 k2 l0 (x4_2 ++ [(([x12_1,x6_2] : List Int))]) x12_1 (wrap64 (x6_2 + 1)) (l0.length : Int) x12_1) else (none)) = some (r1,r2):=by rw [if_pos rfl] at H;exact H
            clear H;have H:=H1;clear H1;obtain ⟨y105,hy105⟩ : ∃ y_ : List Int,y_ = (([x12_1,x6_2] : List Int)):=⟨_,rfl⟩;replace H : (if x4_2.length < 5864062014805 then (spec_ClashesOf.l1 k2 l0 (x4_2 ++ [y105]) x12_1 (wrap64 (x6_2 + 1)) (l0.length : Int) x12_1) else (none)) = some (r1,r2):=by first | (rw [hy105];with_reducible exact H) | (have H2_:=(Option.bind_some _ _).symm.trans H;rw [hy105];with_reducible exact H2_) | (have H2_:=(Option.bind_some _ _).symm.trans H;with_reducible exact H2_) | with_reducible exact H | (rw [hy105];exact H) | exact H
            have Ny105:=Aside0.mk hy105;clear hy105;by_cases c12 : x4_2.length < 5864062014805
            ·rw [if_pos c12] at H;have LMc12:=Aside0.mk c12;clear c12;obtain ⟨y108,hy108⟩ : ∃ y_ : List (List Int),y_ = (x4_2 ++ [y105]):=⟨_,rfl⟩;replace H : (spec_ClashesOf.l1 k2 l0 y108 x12_1 (wrap64 (x6_2 + 1)) (l0.length : Int) x12_1) = some (r1,r2):=by first | (rw [hy108];with_reducible exact H) | (have H2_:=(Option.bind_some _ _).symm.trans H;rw [hy108];with_reducible exact H2_) | (have H2_:=(Option.bind_some _ _).symm.trans H;with_reducible exact H2_) | with_reducible exact H | (rw [hy108];exact H) | exact H
             have Ny108:=Aside0.mk hy108;clear hy108;have H' := Aside0.mk H;clear H;try go_wp2
             replace HO_4:=Aside0.mk (Kd.S_drew HO_4.out);replace HB:=Aside0.mk (below_drew1 HB.out);have p102 : 0 ≤ (x12_1 : Int):=of_decide_eq_true (q2_);have q102 : x12_1 < (l0.length : Int):=of_decide_eq_true (q2_);obtain ⟨ad102,e102,hx102_0,hx102_1,hx102_2,hx102_3⟩:=at_T77 HR0.out x12_1 p102 q102;have hw102_3:=hx102_3;have hw102_2:=hx102_2;have hw102_1:=hx102_1;have hw102_0:=hx102_0;cases e102;replace hx102_0:=hB_ HB.out hx102_0;replace hx102_1:=hB_ HB.out hx102_1;replace hx102_2:=hB_ HB.out hx102_2;replace hx102_3:=hB_ HB.out hx102_3;replace p102:=eq_true p102;replace q102:=eq_true q102;have p103 : 0 ≤ (x6_2 : Int):=of_decide_eq_true (q2_);have q103 : x6_2 < (l0.length : Int):=of_decide_eq_true (q2_);obtain ⟨ad103,e103,hx103_0,hx103_1,hx103_2,hx103_3⟩:=at_T77 HR0.out x6_2 p103 q103;have hw103_3:=hx103_3;have hw103_2:=hx103_2;have hw103_1:=hx103_1;have hw103_0:=hx103_0;obtain rfl : ad102 = ad103:=(by injection e103);replace hx103_0:=hB_ HB.out hx103_0;replace hx103_1:=hB_ HB.out hx103_1;replace hx103_2:=hB_ HB.out hx103_2;replace hx103_3:=hB_ HB.out hx103_3;replace p103:=eq_true p103;replace q103:=eq_true q103;refine start_ (n:=9) (S:=fun w' => w'.cell? (ad102.add ((x12_1).toNat * 4)) = some (.string ((rd_T77 l0 x12_1).f0)) ∧ w'.cell? ⟨(ad102.add ((x12_1).toNat * 4)).block,(ad102.add ((x12_1).toNat * 4)).off + 1,none⟩ = some (.int .i64 ((rd_T77 l0 x12_1).f1)) ∧ w'.cell? ⟨(ad102.add ((x12_1).toNat * 4)).block,(ad102.add ((x12_1).toNat * 4)).off + 2,none⟩ = some (.int .i64 ((rd_T77 l0 x12_1).f2)) ∧ w'.cell? ⟨(ad102.add ((x12_1).toNat * 4)).block,(ad102.add ((x12_1).toNat * 4)).off + 3,none⟩ = some (.int .i64 ((rd_T77 l0 x12_1).f3)) ∧ w'.cell? (ad102.add ((x6_2).toNat * 4)) = some (.string ((rd_T77 l0 x6_2).f0)) ∧ w'.cell? ⟨(ad102.add ((x6_2).toNat * 4)).block,(ad102.add ((x6_2).toNat * 4)).off + 1,none⟩ = some (.int .i64 ((rd_T77 l0 x6_2).f1)) ∧ w'.cell? ⟨(ad102.add ((x6_2).toNat * 4)).block,(ad102.add ((x6_2).toNat * 4)).off + 2,none⟩ = some (.int .i64 ((rd_T77 l0 x6_2).f2)) ∧ w'.cell? ⟨(ad102.add ((x6_2).toNat * 4)).block,(ad102.add ((x6_2).toNat * 4)).off + 3,none⟩ = some (.int .i64 ((rd_T77 l0 x6_2).f3))) (ds:=[]) f61_ (by kernel_rfl) rfl rfl ⟨((HB.out.cell (World.block_lt_of_cell? w _ hw102_0)).trans hw102_0),((HB.out.cell (World.block_lt_of_cell? w _ hw102_1)).trans hw102_1),((HB.out.cell (World.block_lt_of_cell? w _ hw102_2)).trans hw102_2),((HB.out.cell (World.block_lt_of_cell? w _ hw102_3)).trans hw102_3),((HB.out.cell (World.block_lt_of_cell? w _ hw103_0)).trans hw103_0),((HB.out.cell (World.block_lt_of_cell? w _ hw103_1)).trans hw103_1),((HB.out.cell (World.block_lt_of_cell? w _ hw103_2)).trans hw103_2),((HB.out.cell (World.block_lt_of_cell? w _ hw103_3)).trans hw103_3)⟩ (fun hHeld=>?_);refine with_tabW spec_ClashesOf.tab10 spec_ClashesOf.bits10 (fun HT_ HW_=>?_);generalize wr.drew = w13 at HO_4 HB hx102_0 hx102_1 hx102_2 hx102_3 hx103_0 hx103_1 hx103_2 hx103_3 hHeld ⊢;refine pure_ (i:=0) (N:=some 23) (v:=?_) (a' := ?_) f62_ rfl rfl (any_of HT_.out (by kernel_rfl)) (fun _ _ _ h=>h) (Or.inl ⟨by rfl,?_⟩) ?_ ?_;rotate_left
             ·intro w';go_simp;with_reducible rfl
             rotate_left
             ·exact q56_
             refine pa_ 1 24 f63_ ?_
             refine pa_ 2 25 f64_ ?_
             refine pa_ 4 27 f65_ ?_
             refine pa_ 5 28 f66_ ?_
             refine pa_ 6 29 f67_ ?_
             refine take_ (i:=3) (N:=some 26) (v:=?_) (a' := ?_) f68_ rfl rfl (take_ofW HT_.out HW_.out (by kernel_rfl)) (fun _ _ _ h=>h) (Or.inl ⟨by rfl,?_⟩) hHeld ?_ ?_;rotate_left
             ·rintro w' ⟨s0,s1,s2,s3,s4,s5,s6,s7⟩;go_simp;with_reducible rfl
             rotate_left
             ·exact q56_
             refine take_ (i:=7) (N:=some 30) (v:=?_) (a' := ?_) f69_ rfl rfl (take_ofW HT_.out HW_.out (by kernel_rfl)) (fun _ _ _ h=>h) (Or.inl ⟨by rfl,?_⟩) hHeld ?_ ?_;rotate_left
             ·rintro w' ⟨s0,s1,s2,s3,s4,s5,s6,s7⟩;go_simp;with_reducible rfl
             rotate_left
             ·exact q56_
             refine one_ (i:=8) (N:=some 31) f70_ rfl rfl (one_of HT_.out (by kernel_rfl)) (by decide) (fun K hK=>?_);refine goes_ Try.func168 (by kernel_rfl) rfl #[.agg #[.string ((rd_T77 l0 x12_1).f0),.int .i64 ((rd_T77 l0 x12_1).f1),.int .i64 ((rd_T77 l0 x12_1).f2),.int .i64 ((rd_T77 l0 x12_1).f3)],.agg #[.string ((rd_T77 l0 x6_2).f0),.int .i64 ((rd_T77 l0 x6_2).f1),.int .i64 ((rd_T77 l0 x6_2).f2),.int .i64 ((rd_T77 l0 x6_2).f3)]] (by rfl) rfl rfl (q22_) ?_
             with_reducible refine (spec_naClash.calls ((rd_T77 l0 x12_1).f0) ((rd_T77 l0 x12_1).f1) ((rd_T77 l0 x12_1).f2) ((rd_T77 l0 x12_1).f3) ((rd_T77 l0 x6_2).f0) ((rd_T77 l0 x6_2).f1) ((rd_T77 l0 x6_2).f2) ((rd_T77 l0 x6_2).f3) true _ A10.out).mono ?_
             rintro e w14 ⟨rfl,hb⟩;refine ⟨_,rfl,?_⟩;replace HO_4:=Aside0.mk (Kd.S_below (q8_) hb);replace HB:=bS_ HB hb
             (try clear hb)
             (try clear hb2)
             (try clear hk)
             (try clear hi)
             refine hK.out _ _ ⟨((HB.out.cell (World.block_lt_of_cell? w _ hw102_0)).trans hw102_0),((HB.out.cell (World.block_lt_of_cell? w _ hw102_1)).trans hw102_1),((HB.out.cell (World.block_lt_of_cell? w _ hw102_2)).trans hw102_2),((HB.out.cell (World.block_lt_of_cell? w _ hw102_3)).trans hw102_3),((HB.out.cell (World.block_lt_of_cell? w _ hw103_0)).trans hw103_0),((HB.out.cell (World.block_lt_of_cell? w _ hw103_1)).trans hw103_1),((HB.out.cell (World.block_lt_of_cell? w _ hw103_2)).trans hw103_2),((HB.out.cell (World.block_lt_of_cell? w _ hw103_3)).trans hw103_3)⟩ (fun hHeld=>?_);clear hK K;refine norm_ (a' := ?_) ?_ ?_;rotate_left
             ·show Act.put _ (some 31) _ = _;simp only [Act.put,List.setIfInBounds_toArray,List.set_cons_zero,List.set_cons_succ,i64_w,i32_w];rfl
             refine done_ (done_of HT_.out (by kernel_rfl)) ?_;try go_wp2_with (first | ((with_reducible refine gate_dst (N:=35) rfl ?_);refine Kd.R_lit (Kd.int .i64) _ 3 ?hg (N:=35) ?hd (xs:=([x12_1,x6_2] : List Int)) (inner:=[.int .i64 x12_1,.int .i64 x6_2]) (ok:=fun _=>True) (okp:=fun _=>True) ?hr ?hp (fun _ hk=>hk) trivial (Below.refl _ _) (Nat.le_refl _) (by simp) ?_;(case hd=>rfl);(case hg=>rfl);(case hr=>first | (go_simp;done) | (go_simp;rfl));(case hp=>exact (Reps.one (show Kd.M (Kd.int .i64) _ _ _ x12_1 [.int .i64 x12_1] from rfl) (Reps.one (show Kd.M (Kd.int .i64) _ _ _ x6_2 [.int .i64 x6_2] from rfl) (Reps.none _ _))));intro v106 w15 ho16 hb hg_ hnew_;clear hg_ hnew_;(first | rw [← Ny105.out] at ho16 | (simp only [Int.reduceToNat] at ho16;rw [← Ny105.out] at ho16));replace HO_4:=Aside0.mk (Kd.S_elder' (q8_) (Kd.R_base ho16) hb);have HO107:=Aside0.mk (Kd.R_lower ho16 (below_size (q21_)));replace HB:=bS_ HB hb;clear hb ho16;obtain ⟨Ao18,co18,eo18⟩:=Kd.R_slice HO107.out;subst eo18) | ((with_reducible refine gate_builtin (b:=.append) (xs:=#[.tmp 32,.tmp 36]) rfl ?_);at_builtin;refine Kd.S_append (Kd.slice 3 (Kd.int .i64)) (w0:=w) w.heap.size rfl (.tmp 32) (.tmp 36) 68 65 (.slice none 0 0) 24 rfl Try.underlying68 info65 rfl (by decide) (by omega) u4 x4_2 y105 [.slice Ao18 y105.length co18] (fun _=>True) (fun k_=>some k_ = (.slice Ao18 y105.length co18 : Value).ownBlock) rfl rfl ?aP (fun k_ hk_=>((Kd.R_mono (ok' := fun k_=>((fun _=>True)) k_ ∧ some k_ ≠ (u4 : Value).ownBlock) (Kd.R_apart' (HO107.out) (Kd.S_typed HO_4.out) (by decide)) (fun k_ hk=>⟨trivial,hk.2⟩))).1 k_ hk_.symm) ?aF ?aO ?aB ?aS ?aL ?_;(case aP=>exact Kd.M_row (Kd.R_mono (Kd.R_tight rfl (Kd.R_mono (ok' := fun k_=>((fun _=>True)) k_ ∧ some k_ ≠ (u4 : Value).ownBlock) (Kd.R_apart' (HO107.out) (Kd.S_typed HO_4.out) (by decide)) (fun k_ hk=>⟨trivial,hk.2⟩))) (fun _ h_=>h_)));(case aB=>exact (q21_));(case aF=>exact (fun _ _=>trivial));(case aO=>exact (by (with_reducible repeat (first | apply Kd.S_alloc | apply Kd.S_drewN | apply Kd.S_drew));exact Kd.S_mono HO_4.out (fun k_ hk=>⟨trivial,fun e_=>hk.2 e_⟩)));(case aS=>exact (below_size (q21_)));(case aL=>have:=LMc12.out;omega);intro v109 w17 ho hb hg hat;rw [← Ny108.out] at ho;replace HB:=Aside0.mk (hb);have HO110:=Aside0.mk (ho);clear HO_4 HO107;clear ho hb hg hat))
             go_roundg k2
             case measure=>have:=HK1.out;have:=HK2.out;omega
             case rel=>exact ⟨(y108),(wrap64 (x6_2 + 1)),(q1_),H', ⟨by have:=HK1.out;have:=HK2.out;omega⟩,⟨by (with_reducible repeat (first | apply Kd.S_alloc | apply Kd.S_drewN | apply Kd.S_drew));exact HO110.out⟩,⟨q21_⟩⟩
            ·rw [if_neg c12] at H;exact absurd H (by simp)
           ·replace c11:=Bool.eq_false_iff.mpr c11;subst c11;have H1 : (spec_ClashesOf.l1 k2 l0 x4_2 x12_1 (wrap64 (x6_2 + 1)) (l0.length : Int) x12_1) = some (r1,r2):=by rw [if_neg (show ¬ (false = true) by decide)] at H;exact H
            clear H;have H:=H1;clear H1;have H' := Aside0.mk H;clear H;try go_wp2
            replace HO_4:=Aside0.mk (Kd.S_drew HO_4.out);replace HB:=Aside0.mk (below_drew1 HB.out);have p102 : 0 ≤ (x12_1 : Int):=of_decide_eq_true (q2_);have q102 : x12_1 < (l0.length : Int):=of_decide_eq_true (q2_);obtain ⟨ad102,e102,hx102_0,hx102_1,hx102_2,hx102_3⟩:=at_T77 HR0.out x12_1 p102 q102;have hw102_3:=hx102_3;have hw102_2:=hx102_2;have hw102_1:=hx102_1;have hw102_0:=hx102_0;cases e102;replace hx102_0:=hB_ HB.out hx102_0;replace hx102_1:=hB_ HB.out hx102_1;replace hx102_2:=hB_ HB.out hx102_2;replace hx102_3:=hB_ HB.out hx102_3;replace p102:=eq_true p102;replace q102:=eq_true q102;have p103 : 0 ≤ (x6_2 : Int):=of_decide_eq_true (q2_);have q103 : x6_2 < (l0.length : Int):=of_decide_eq_true (q2_);obtain ⟨ad103,e103,hx103_0,hx103_1,hx103_2,hx103_3⟩:=at_T77 HR0.out x6_2 p103 q103;have hw103_3:=hx103_3;have hw103_2:=hx103_2;have hw103_1:=hx103_1;have hw103_0:=hx103_0;obtain rfl : ad102 = ad103:=(by injection e103);replace hx103_0:=hB_ HB.out hx103_0;replace hx103_1:=hB_ HB.out hx103_1;replace hx103_2:=hB_ HB.out hx103_2;replace hx103_3:=hB_ HB.out hx103_3;replace p103:=eq_true p103;replace q103:=eq_true q103;refine start_ (n:=9) (S:=fun w' => w'.cell? (ad102.add ((x12_1).toNat * 4)) = some (.string ((rd_T77 l0 x12_1).f0)) ∧ w'.cell? ⟨(ad102.add ((x12_1).toNat * 4)).block,(ad102.add ((x12_1).toNat * 4)).off + 1,none⟩ = some (.int .i64 ((rd_T77 l0 x12_1).f1)) ∧ w'.cell? ⟨(ad102.add ((x12_1).toNat * 4)).block,(ad102.add ((x12_1).toNat * 4)).off + 2,none⟩ = some (.int .i64 ((rd_T77 l0 x12_1).f2)) ∧ w'.cell? ⟨(ad102.add ((x12_1).toNat * 4)).block,(ad102.add ((x12_1).toNat * 4)).off + 3,none⟩ = some (.int .i64 ((rd_T77 l0 x12_1).f3)) ∧ w'.cell? (ad102.add ((x6_2).toNat * 4)) = some (.string ((rd_T77 l0 x6_2).f0)) ∧ w'.cell? ⟨(ad102.add ((x6_2).toNat * 4)).block,(ad102.add ((x6_2).toNat * 4)).off + 1,none⟩ = some (.int .i64 ((rd_T77 l0 x6_2).f1)) ∧ w'.cell? ⟨(ad102.add ((x6_2).toNat * 4)).block,(ad102.add ((x6_2).toNat * 4)).off + 2,none⟩ = some (.int .i64 ((rd_T77 l0 x6_2).f2)) ∧ w'.cell? ⟨(ad102.add ((x6_2).toNat * 4)).block,(ad102.add ((x6_2).toNat * 4)).off + 3,none⟩ = some (.int .i64 ((rd_T77 l0 x6_2).f3))) (ds:=[]) f61_ (by kernel_rfl) rfl rfl ⟨((HB.out.cell (World.block_lt_of_cell? w _ hw102_0)).trans hw102_0),((HB.out.cell (World.block_lt_of_cell? w _ hw102_1)).trans hw102_1),((HB.out.cell (World.block_lt_of_cell? w _ hw102_2)).trans hw102_2),((HB.out.cell (World.block_lt_of_cell? w _ hw102_3)).trans hw102_3),((HB.out.cell (World.block_lt_of_cell? w _ hw103_0)).trans hw103_0),((HB.out.cell (World.block_lt_of_cell? w _ hw103_1)).trans hw103_1),((HB.out.cell (World.block_lt_of_cell? w _ hw103_2)).trans hw103_2),((HB.out.cell (World.block_lt_of_cell? w _ hw103_3)).trans hw103_3)⟩ (fun hHeld=>?_);refine with_tabW spec_ClashesOf.tab10 spec_ClashesOf.bits10 (fun HT_ HW_=>?_);generalize wr.drew = w19 at HO_4 HB hx102_0 hx102_1 hx102_2 hx102_3 hx103_0 hx103_1 hx103_2 hx103_3 hHeld ⊢;refine pure_ (i:=0) (N:=some 23) (v:=?_) (a' := ?_) f62_ rfl rfl (any_of HT_.out (by kernel_rfl)) (fun _ _ _ h=>h) (Or.inl ⟨by rfl,?_⟩) ?_ ?_;rotate_left
            ·intro w';go_simp;with_reducible rfl
            rotate_left
            ·exact q56_
            refine pa_ 1 24 f63_ ?_
            refine pa_ 2 25 f64_ ?_
            refine pa_ 4 27 f65_ ?_
            refine pa_ 5 28 f66_ ?_
            refine pa_ 6 29 f67_ ?_
            refine take_ (i:=3) (N:=some 26) (v:=?_) (a' := ?_) f68_ rfl rfl (take_ofW HT_.out HW_.out (by kernel_rfl)) (fun _ _ _ h=>h) (Or.inl ⟨by rfl,?_⟩) hHeld ?_ ?_;rotate_left
            ·rintro w' ⟨s0,s1,s2,s3,s4,s5,s6,s7⟩;go_simp;with_reducible rfl
            rotate_left
            ·exact q56_
            refine take_ (i:=7) (N:=some 30) (v:=?_) (a' := ?_) f69_ rfl rfl (take_ofW HT_.out HW_.out (by kernel_rfl)) (fun _ _ _ h=>h) (Or.inl ⟨by rfl,?_⟩) hHeld ?_ ?_;rotate_left
            ·rintro w' ⟨s0,s1,s2,s3,s4,s5,s6,s7⟩;go_simp;with_reducible rfl
            rotate_left
            ·exact q56_
            refine one_ (i:=8) (N:=some 31) f70_ rfl rfl (one_of HT_.out (by kernel_rfl)) (by decide) (fun K hK=>?_);refine goes_ Try.func168 (by kernel_rfl) rfl #[.agg #[.string ((rd_T77 l0 x12_1).f0),.int .i64 ((rd_T77 l0 x12_1).f1),.int .i64 ((rd_T77 l0 x12_1).f2),.int .i64 ((rd_T77 l0 x12_1).f3)],.agg #[.string ((rd_T77 l0 x6_2).f0),.int .i64 ((rd_T77 l0 x6_2).f1),.int .i64 ((rd_T77 l0 x6_2).f2),.int .i64 ((rd_T77 l0 x6_2).f3)]] (by rfl) rfl rfl (q22_) ?_
            with_reducible refine (spec_naClash.calls ((rd_T77 l0 x12_1).f0) ((rd_T77 l0 x12_1).f1) ((rd_T77 l0 x12_1).f2) ((rd_T77 l0 x12_1).f3) ((rd_T77 l0 x6_2).f0) ((rd_T77 l0 x6_2).f1) ((rd_T77 l0 x6_2).f2) ((rd_T77 l0 x6_2).f3) false _ A10.out).mono ?_
            rintro e w20 ⟨rfl,hb⟩;refine ⟨_,rfl,?_⟩;replace HO_4:=Aside0.mk (Kd.S_below (q8_) hb);replace HB:=bS_ HB hb
            (try clear hb)
            (try clear hb2)
            (try clear hk)
            (try clear hi)
            refine hK.out _ _ ⟨((HB.out.cell (World.block_lt_of_cell? w _ hw102_0)).trans hw102_0),((HB.out.cell (World.block_lt_of_cell? w _ hw102_1)).trans hw102_1),((HB.out.cell (World.block_lt_of_cell? w _ hw102_2)).trans hw102_2),((HB.out.cell (World.block_lt_of_cell? w _ hw102_3)).trans hw102_3),((HB.out.cell (World.block_lt_of_cell? w _ hw103_0)).trans hw103_0),((HB.out.cell (World.block_lt_of_cell? w _ hw103_1)).trans hw103_1),((HB.out.cell (World.block_lt_of_cell? w _ hw103_2)).trans hw103_2),((HB.out.cell (World.block_lt_of_cell? w _ hw103_3)).trans hw103_3)⟩ (fun hHeld=>?_);clear hK K;refine norm_ (a' := ?_) ?_ ?_;rotate_left
            ·show Act.put _ (some 31) _ = _;simp only [Act.put,List.setIfInBounds_toArray,List.set_cons_zero,List.set_cons_succ,i64_w,i32_w];rfl
            refine done_ (done_of HT_.out (by kernel_rfl)) ?_;try go_wp2
            go_roundg k2
            case measure=>have:=HK1.out;have:=HK2.out;omega
            case rel=>exact ⟨(x4_2),(wrap64 (x6_2 + 1)),(q1_),H', ⟨by have:=HK1.out;have:=HK2.out;omega⟩,⟨q8_⟩,⟨q21_⟩⟩
          ·rw [if_neg c9] at H;exact absurd H (by simp)
         ·rw [if_neg c8] at H;exact absurd H (by simp)
        ·rw [if_neg c7] at H;exact absurd H (by simp)
       ·rw [if_neg c6] at H;have c6b0 : decide (x6_2 < (l0.length : Int)) = false:=decide_eq_false c6;clear c6;have H' := Aside0.mk H;clear H;go_wp2;go_roundg k2
        case measure=>have:=HK1.out;have:=HK2.out;omega
        case rel=>exact ⟨(x4_2),(wrap64 (x12_1 + 1)),(q1_),H', ⟨by have:=HK1.out;have:=HK2.out;omega⟩,⟨q8_⟩,⟨q21_⟩⟩
    ·rw [if_neg c5] at H;have c5b0 : decide (x12_1 < (l0.length : Int)) = false:=decide_eq_false c5;clear c5;simp only [Option.some.injEq,Prod.mk.injEq] at H;obtain ⟨rfl,rfl⟩:=H;go_wp2;go_ret2
     exact ⟨_,q4_,q8_,q21_⟩
 ·replace c3:=Bool.eq_false_iff.mpr c3;subst c3;have H1 : (some (([] : List (List Int)),false)) = some (r1,r2):=by rw [if_neg (show ¬ (false = true) by decide)] at H;exact H
  clear H;have H:=H1;clear H1;simp only [Option.some.injEq,Prod.mk.injEq] at H;obtain ⟨rfl,rfl⟩:=H;go_enter Try.func54,Try.ntmps54
  go_wp2_with (first | ((with_reducible refine gate_callee (f:=162) rfl ?_);refine goesL_ (some 8) rfl rfl Try.func162 (by kernel_rfl) rfl #[.slice A0 l0.length c0] rfl (q22_) ?_;(with_reducible refine (spec_naGood.calls k _ _ l0 false _ ?side1 ?side2 A2.out).mono ?_);(case side1=>exact cX_ HR0.out);(case side2=>exact HC0.out);rintro e w21 ⟨rfl,hb⟩;refine ⟨_,rfl,?_⟩;replace HB:=bS_ HB hb;(try clear hb)))
  go_ret2
  exact ⟨_,q4_,by first | exact Kd.S_nil _ _ _ _ _ | exact Kd.N_nil _ _ _ _ _ | exact Kd.V_nil _ _ _ _ _ | exact Kd.Q_nil _ _ _ _ _ | exact Kd.R_nil _ _ _ _ _,q21_⟩
/-! ### laws_pSamePeople: function 55 -/
def laws_pSamePeople.l0 : Nat → List (S77) → List (S77) → Int → Int → Option (Bool)
 | 0,_,_,_,_=>none
 | k + 1,x0,x1,x12,x13=>if x13 < x12 then (if 0 ≤ x13 then (if x13 < (x0.length : Int) then (if x13 < (x1.length : Int) then (if (!((((rd_T77 x0 x13).f0).toList) == (((rd_T77 x1 x13).f0).toList)) || (!(((rd_T77 x0 x13).f1) == ((rd_T77 x1 x13).f1)) || (!(((rd_T77 x0 x13).f2) == ((rd_T77 x1 x13).f2)) || (!(((rd_T77 x0 x13).f3) == ((rd_T77 x1 x13).f3)))))) = true then (some false) else (laws_pSamePeople.l0 k x0 x1 x12 (wrap64 (x13 + 1)))) else (none)) else (none)) else (none)) else (some true)
def laws_pSamePeople.f (k : Nat) (l0 : List (S77)) (l1 : List (S77)) : Option (Bool):=if (l0.length : Int) = (l1.length : Int) then (laws_pSamePeople.l0 k l0 l1 (l0.length : Int) 0) else (some false)
set_option maxHeartbeats 8000000 in
set_option maxRecDepth 100000 in
theorem laws_pSamePeople.calls (k : Nat) (A0 : Option Addr) (c0 : Nat) (l0 : List (S77)) (A1 : Option Addr) (c1 : Nat) (l1 : List (S77)) (r : Bool) (w : World) (hr0 : Kd.C k77 w A0 l0.length l0) (hc0 : l0.length ≤ c0) (hr1 : Kd.C k77 w A1 l1.length l1) (hc1 : l1.length ≤ c1) (h : laws_pSamePeople.f k l0 l1 = some r) :
  Calls Try.prog 55 #[.slice A0 l0.length c0,.slice A1 l1.length c1] w fun e w' => e = .returned (.bool r) ∧ Drawn0 w w' := by
 have hu77:=Try.underlying77;have HR0:=Aside0.mk hr0;have HC0:=Aside0.mk hc0;clear hr0 hc0;have HR1:=Aside0.mk hr1;have HC1:=Aside0.mk hc1;clear hr1 hc1;have H : (if (l0.length : Int) = (l1.length : Int) then (laws_pSamePeople.l0 k l0 l1 (l0.length : Int) 0) else (some false)) = some r:=h;clear h;by_cases c3 : (l0.length : Int) = (l1.length : Int)
 ·rw [if_pos c3] at H;have c3b0 : ((l0.length : Int) == (l1.length : Int)) = true:=beq_iff_eq.mpr c3;have c3b1 : ((l0.length : Int) != (l1.length : Int)) = false:=bne_eq_false_iff_eq.mpr c3;have c3b2 : (l0.length == l1.length) = true:=by first | simpa using c3 | (simp at c3 ⊢;omega)
  clear c3;have H' := Aside0.mk H;clear H;go_enter Try.func55,Try.ntmps55
  go_wp2;repeat (go_quiet (fail);try go_wp2)
  go_loopg [13] k (fun kq v13 w' => ∃ (x13_1 : Int),v13 = .int .i64 x13_1 ∧ Aside0 (laws_pSamePeople.l0 kq l0 l1 (l0.length : Int) x13_1 = some r) ∧ Aside0 (kq ≤ k) ∧ Drawn0 w w')
  case atStart=>exact ⟨(0),(q1_),H', ⟨Nat.le_refl _⟩,q3_⟩
  case round =>
   clear H';try clear c1
   try clear c3
   try clear c3b0
   try clear c3b1
   try clear c3b2
   obtain ⟨x13_1,rfl,HA,HK1,⟨m1,rfl⟩⟩:=hrel;cases gk with
   | zero=>exact absurd HA.out (by simp [laws_pSamePeople.l0])
   | succ k1 =>
    have H:=HA.out;clear HA;simp only [laws_pSamePeople.l0] at H;by_cases c4 : x13_1 < (l0.length : Int)
    ·rw [if_pos c4] at H;have c4b0 : decide (x13_1 < (l0.length : Int)) = true:=decide_eq_true c4;clear c4;by_cases c5 : 0 ≤ x13_1
     ·rw [if_pos c5] at H;have c5b0 : decide (0 ≤ x13_1) = true:=decide_eq_true c5;clear c5;by_cases c6 : x13_1 < (l0.length : Int)
      ·rw [if_pos c6] at H;have c6b0 : decide (x13_1 < (l0.length : Int)) = true:=decide_eq_true c6;clear c6;by_cases c7 : x13_1 < (l1.length : Int)
       ·rw [if_pos c7] at H;have c7b0 : decide (x13_1 < (l1.length : Int)) = true:=decide_eq_true c7;clear c7;by_cases c8 : (!((((rd_T77 l0 x13_1).f0).toList) == (((rd_T77 l1 x13_1).f0).toList)) || (!(((rd_T77 l0 x13_1).f1) == ((rd_T77 l1 x13_1).f1)) || (!(((rd_T77 l0 x13_1).f2) == ((rd_T77 l1 x13_1).f2)) || (!(((rd_T77 l0 x13_1).f3) == ((rd_T77 l1 x13_1).f3)))))) = true
        ·rw [if_pos c8] at H;have c8b0 : (!((((rd_T77 l0 x13_1).f0).toList) == (((rd_T77 l1 x13_1).f0).toList)) || (!(((rd_T77 l0 x13_1).f1) == ((rd_T77 l1 x13_1).f1)) || (!(((rd_T77 l0 x13_1).f2) == ((rd_T77 l1 x13_1).f2)) || (!(((rd_T77 l0 x13_1).f3) == ((rd_T77 l1 x13_1).f3)))))) = true:=c8;clear c8;obtain rfl:=Option.some.inj H;have p101 : 0 ≤ (x13_1 : Int):=of_decide_eq_true (q2_);have q101 : x13_1 < (l0.length : Int):=of_decide_eq_true (q2_);obtain ⟨ad101,e101,hx101_0,hx101_1,hx101_2,hx101_3⟩:=at_T77 HR0.out x13_1 p101 q101;cases e101;replace p101:=eq_true p101;replace q101:=eq_true q101;have p102 : 0 ≤ (x13_1 : Int):=of_decide_eq_true (q2_);have q102 : x13_1 < (l1.length : Int):=of_decide_eq_true (q2_);obtain ⟨ad102,e102,hx102_0,hx102_1,hx102_2,hx102_3⟩:=at_T77 HR1.out x13_1 p102 q102;cases e102;replace p102:=eq_true p102;replace q102:=eq_true q102;go_wp2;repeat (go_quiet (fail);try go_wp2)
         go_ret;exact ⟨q1_,q3_⟩
        ·rw [if_neg c8] at H;have c8b0 : (!((((rd_T77 l0 x13_1).f0).toList) == (((rd_T77 l1 x13_1).f0).toList)) || (!(((rd_T77 l0 x13_1).f1) == ((rd_T77 l1 x13_1).f1)) || (!(((rd_T77 l0 x13_1).f2) == ((rd_T77 l1 x13_1).f2)) || (!(((rd_T77 l0 x13_1).f3) == ((rd_T77 l1 x13_1).f3)))))) = false:=by simpa using c8
         clear c8;have H' := Aside0.mk H;clear H;have p101 : 0 ≤ (x13_1 : Int):=of_decide_eq_true (q2_);have q101 : x13_1 < (l0.length : Int):=of_decide_eq_true (q2_);obtain ⟨ad101,e101,hx101_0,hx101_1,hx101_2,hx101_3⟩:=at_T77 HR0.out x13_1 p101 q101;cases e101;replace p101:=eq_true p101;replace q101:=eq_true q101;have p102 : 0 ≤ (x13_1 : Int):=of_decide_eq_true (q2_);have q102 : x13_1 < (l1.length : Int):=of_decide_eq_true (q2_);obtain ⟨ad102,e102,hx102_0,hx102_1,hx102_2,hx102_3⟩:=at_T77 HR1.out x13_1 p102 q102;cases e102;replace p102:=eq_true p102;replace q102:=eq_true q102;go_wp2;repeat (go_quiet (fail);try go_wp2)
         go_roundg k1
         case measure=>have:=HK1.out;omega
         case rel=>exact ⟨(wrap64 (x13_1 + 1)),(q1_),H', ⟨by have:=HK1.out;omega⟩,q3_⟩
       ·rw [if_neg c7] at H;exact absurd H (by simp)
      ·rw [if_neg c6] at H;exact absurd H (by simp)
     ·rw [if_neg c5] at H;exact absurd H (by simp)
    ·rw [if_neg c4] at H;have c4b0 : decide (x13_1 < (l0.length : Int)) = false:=decide_eq_false c4;clear c4;obtain rfl:=Option.some.inj H;go_wp2;repeat (go_quiet (fail);try go_wp2)
     go_ret;exact ⟨q1_,q3_⟩
 ·rw [if_neg c3] at H;have c3b0 : ((l0.length : Int) == (l1.length : Int)) = false:=beq_eq_false_iff_ne.mpr c3;have c3b1 : ((l0.length : Int) != (l1.length : Int)) = true:=bne_iff_ne.mpr c3;have c3b2 : (l0.length == l1.length) = false:=by first | simpa using c3 | (simp at c3 ⊢;omega)
  obtain rfl:=Option.some.inj H;go_enter Try.func55,Try.ntmps55
  go_wp2;repeat (go_quiet (fail);try go_wp2)
  go_ret;exact ⟨q1_,q3_⟩
end Go.Proofs.Ytgapcmmhbegdeaa.G
