-- Written by this session's own program over the kit's print (wip/tools/myprint.py); Lean checks it.
import Derived.Test.YtgapcmmhbegdeaaMBase
import Derived.Test.YtgapcmmhbegdeaaG0
import Derived.Test.YtgapcmmhbegdeaaG8
import Derived.Test.YtgapcmmhbegdeaaG9
import Derived.Test.YtgapcmmhbegdeaaG46
import Derived.Test.YtgapcmmhbegdeaaG48
import Derived.Test.YtgapcmmhbegdeaaG50
import Derived.Test.YtgapcmmhbegdeaaG52
import Derived.Test.YtgapcmmhbegdeaaG91
namespace Go.Proofs.Ytgapcmmhbegdeaa.G
open Go.RowKit Go.Proofs.YtgapcmmhbegdeaaW.PrintWords Go.Proofs.YtgapcmmhbegdeaaW.PrintLast Go.Proofs.YtgapcmmhbegdeaaW.PrintMore
attribute [local go_sem] max2_int min2_int max_two min_two max_three min_three max_four min_four str_geq str_gtr str_leq   -- for this text's walks alone
set_option linter.unusedVariables false
set_option linter.unusedSimpArgs false
attribute [local go_sem high] eqA58
/-! ### slices_stableCmpFunc_Note: function 266 -/
mutual
def slices_stableCmpFunc_Note.l0 : Nat → List (S58) → Int → Int → Int → Int → Option ((List (S58)))
 | 0,_,_,_,_,_=>none
 | k + 1,x0,x1,x6,x7,x8=>if x8 ≤ x1 then ((slices_insertionSortCmpFunc_Note.f k x0 x7 x8).bind fun t101=>(slices_stableCmpFunc_Note.l0 k t101 x1 x6 x8 (wrap64 (x8 + x6)))) else ((slices_insertionSortCmpFunc_Note.f k x0 x7 x1).bind fun t102=>(slices_stableCmpFunc_Note.l1 k t102 x1 x6))
def slices_stableCmpFunc_Note.l1 : Nat → List (S58) → Int → Int → Option ((List (S58)))
 | 0,_,_,_=>none
 | k + 1,x0,x1,x6=>if x6 < x1 then (slices_stableCmpFunc_Note.l2 k x0 x1 x6 0 (wrap64 (2 * x6))) else (some x0)
def slices_stableCmpFunc_Note.l2 : Nat → List (S58) → Int → Int → Int → Int → Option ((List (S58)))
 | 0,_,_,_,_,_=>none
 | k + 1,x0,x1,x6,x7,x8=>if x8 ≤ x1 then ((slices_symMergeCmpFunc_Note.f k x0 x7 (wrap64 (x7 + x6)) x8).bind fun t103=>(slices_stableCmpFunc_Note.l2 k t103 x1 x6 x8 (wrap64 (x8 + (wrap64 (2 * x6)))))) else (if (wrap64 (x7 + x6)) < x1 then ((slices_symMergeCmpFunc_Note.f k x0 x7 (wrap64 (x7 + x6)) x1).bind fun t104=>(slices_stableCmpFunc_Note.l1 k t104 x1 (wrap64 (x6 * 2)))) else (slices_stableCmpFunc_Note.l1 k x0 x1 (wrap64 (x6 * 2))))
end
def slices_stableCmpFunc_Note.f (k : Nat) (l0 : List (S58)) (a1 : Int)  : Option ((List (S58))):=slices_stableCmpFunc_Note.l0 k l0 a1 20 0 20
set_option maxHeartbeats 8000000 in
set_option maxRecDepth 100000 in
theorem slices_stableCmpFunc_Note.calls (k : Nat) (P0_ : Nat → Prop) (u9000_ : Value) (l0 : List (S58)) (a1 : Int)  (r : List (S58)) (w0 w : World) (hB : Below w0.heap.size w0 w) (ho0 : Kd.R k58 58 w w0.heap.size P0_ u9000_ l0) (h : slices_stableCmpFunc_Note.f k l0 a1 = some r) :
  Calls Try.prog 266 #[u9000_,.int .i64 a1,.func (.func 249) #[] #[]] w fun e w' => e = .returned (.tuple #[]) ∧ Kd.R k58 58 w' w0.heap.size (fun k_=>(P0_ k_ ∨ w.heap.size ≤ k_)) u9000_ r ∧ Below w0.heap.size w0 w' ∧ Kept w w' (fun k_=>P0_ k_):=by
 have HO0:=Aside0.mk (show Kd.R k58 58 w w0.heap.size (fun k_=>(P0_ k_ ∨ w.heap.size ≤ k_)) u9000_ l0 from Kd.R_mono ho0 (fun k_ hk=>(.inl hk)));have HK:=Aside0.mk (Kept.refl w (fun k_=>P0_ k_));have HW0:=Aside0.mk hB.size;have HB:=Aside0.mk hB;clear hB;have H : (slices_stableCmpFunc_Note.l0 k l0 a1 20 0 20) = some r:=h;clear h;have H' := Aside0.mk H;clear H;go_enter Try.func266,Try.ntmps266
 go_wp2
 (try simp only [Act.put,List.setIfInBounds_toArray,List.set_cons_zero,List.set_cons_succ])
 go_loopg [7,8] k (fun kq v7 v8 w' => ∃ (x0_1 : List (S58)) (x7_1 : Int) (x8_1 : Int),v7 = .int .i64 x7_1 ∧ v8 = .int .i64 x8_1 ∧ Aside0 (slices_stableCmpFunc_Note.l0 kq x0_1 a1 20 x7_1 x8_1 = some r) ∧ Aside0 (kq ≤ k) ∧ Aside0 (Kd.R k58 58 w' w0.heap.size (fun k_=>(P0_ k_ ∨ w.heap.size ≤ k_)) u9000_ x0_1) ∧ Aside0 (Kept w w' (fun k_=>P0_ k_)) ∧ Aside0 (Below w0.heap.size w0 w'))
 case atStart=>exact ⟨(l0),(0),(20),(q1_),(q1_),H', ⟨Nat.le_refl _⟩,⟨q5_⟩,⟨q21_⟩,⟨q22_⟩⟩
 case round =>
  clear H';obtain ⟨x0_1,x7_1,x8_1,rfl,rfl,HA,HK1,HO_0,HK,HB⟩:=hrel;cases gk with
  | zero=>exact absurd HA.out (by simp [slices_stableCmpFunc_Note.l0])
  | succ k1 =>
   have H:=HA.out;clear HA;simp only [slices_stableCmpFunc_Note.l0] at H;by_cases c4 : x8_1 ≤ a1
   ·rw [if_pos c4] at H;have c4b0 : decide (x8_1 ≤ a1) = true:=decide_eq_true c4;clear c4;replace H:=Option.bind_eq_some_iff.mp H;obtain ⟨t101,A50,H⟩:=H;(try dsimp only at H);have A5:=Aside0.mk A50;clear A50;have H' := Aside0.mk H;clear H;obtain ⟨Ao6,co6,eo6⟩:=Kd.R_slice HO_0.out;subst eo6;go_wp2_with (first | ((with_reducible refine gate_callee (f:=270) rfl ?_);refine goesL_ (some 18) rfl rfl Try.func270 (by kernel_rfl) rfl #[.slice Ao6 x0_1.length co6,.int .i64 x7_1,.int .i64 x8_1,.func (.func 249) #[] #[]] rfl (q24_) ?_;(with_reducible refine (slices_insertionSortCmpFunc_Note.calls k1 (fun k_=>some k_ = (.slice Ao6 x0_1.length co6 : Value).ownBlock) (.slice Ao6 x0_1.length co6) x0_1 x7_1 x8_1  t101 w0 _ ?side1 ?side2 A5.out).mono ?_);(case side1=>exact (q22_));(case side2=>exact Kd.R_tight rfl HO_0.out);rintro e w7 ⟨rfl,hy0,hb,hkp⟩;refine ⟨_,rfl,?_⟩;replace HK:=Aside0.mk (Kept.then_ (S:=(fun k_=>P0_ k_)) (q21_) hkp (fun k_ hs_=>(fun e_=>(HO_0.out.1 k_ e_.symm)) hs_));replace HO_0:=Aside0.mk (Kd.R_reok rfl hy0 (fun k_ e_=>HO_0.out.1 k_ e_));replace HB:=Aside0.mk (hb);(try clear hb);(try clear hkp);(try clear hy0)))
    go_roundg k1
    case measure=>have:=HK1.out;omega
    case rel=>exact ⟨(t101),(x8_1),(wrap64 (x8_1 + 20)),(q1_),(q1_),H', ⟨by have:=HK1.out;omega⟩,⟨q6_⟩,⟨q21_⟩,⟨q22_⟩⟩
   ·rw [if_neg c4] at H;have c4b0 : decide (x8_1 ≤ a1) = false:=decide_eq_false c4;clear c4;replace H:=Option.bind_eq_some_iff.mp H;obtain ⟨t102,A80,H⟩:=H;(try dsimp only at H);have A8:=Aside0.mk A80;clear A80;have H' := Aside0.mk H;clear H;obtain ⟨Ao9,co9,eo9⟩:=Kd.R_slice HO_0.out;subst eo9;go_wp2_with (first | ((with_reducible refine gate_callee (f:=270) rfl ?_);refine goesL_ (some 27) rfl rfl Try.func270 (by kernel_rfl) rfl #[.slice Ao9 x0_1.length co9,.int .i64 x7_1,.int .i64 a1,.func (.func 249) #[] #[]] rfl (q24_) ?_;(with_reducible refine (slices_insertionSortCmpFunc_Note.calls k1 (fun k_=>some k_ = (.slice Ao9 x0_1.length co9 : Value).ownBlock) (.slice Ao9 x0_1.length co9) x0_1 x7_1 a1  t102 w0 _ ?side1 ?side2 A8.out).mono ?_);(case side1=>exact (q22_));(case side2=>exact Kd.R_tight rfl HO_0.out);rintro e w10 ⟨rfl,hy0,hb,hkp⟩;refine ⟨_,rfl,?_⟩;replace HK:=Aside0.mk (Kept.then_ (S:=(fun k_=>P0_ k_)) (q21_) hkp (fun k_ hs_=>(fun e_=>(HO_0.out.1 k_ e_.symm)) hs_));replace HO_0:=Aside0.mk (Kd.R_reok rfl hy0 (fun k_ e_=>HO_0.out.1 k_ e_));replace HB:=Aside0.mk (hb);(try clear hb);(try clear hkp);(try clear hy0)))
    (try simp only [Act.put,List.setIfInBounds_toArray,List.set_cons_zero,List.set_cons_succ])
    go_loopg [6] k1 (fun kq v6 w' => ∃ (x0_2 : List (S58)) (x6_2 : Int),v6 = .int .i64 x6_2 ∧ Aside0 (slices_stableCmpFunc_Note.l1 kq x0_2 a1 x6_2 = some r) ∧ Aside0 (kq ≤ k1) ∧ Aside0 (Kd.R k58 58 w' w0.heap.size (fun k_=>(P0_ k_ ∨ w.heap.size ≤ k_)) (.slice Ao9 x0_1.length co9) x0_2) ∧ Aside0 (Kept w w' (fun k_=>P0_ k_)) ∧ Aside0 (Below w0.heap.size w0 w'))
    case atStart=>exact ⟨(t102),(20),(q1_),H', ⟨Nat.le_refl _⟩,⟨q6_⟩,⟨q21_⟩,⟨q22_⟩⟩
    case round =>
     clear H';try clear c4
     try clear c4b0
     obtain ⟨x0_2,x6_2,rfl,HA,HK2,HO_0,HK,HB⟩:=hrel;have hl0_2:=(Kd.R_reads' HO_0.out).1;rw [hl0_2] at HO_0
     (try simp only [hl0_2])
     cases gk with
     | zero=>exact absurd HA.out (by simp [slices_stableCmpFunc_Note.l1])
     | succ k2 =>
      have H:=HA.out;clear HA;simp only [slices_stableCmpFunc_Note.l1] at H;by_cases c11 : x6_2 < a1
      ·rw [if_pos c11] at H;have c11b0 : decide (x6_2 < a1) = true:=decide_eq_true c11;clear c11;have H' := Aside0.mk H;clear H;go_wp2
       (try simp only [Act.put,List.setIfInBounds_toArray,List.set_cons_zero,List.set_cons_succ])
       go_loopg [7,8] k2 (fun kq v7 v8 w' => ∃ (x0_3 : List (S58)) (x7_3 : Int) (x8_3 : Int),v7 = .int .i64 x7_3 ∧ v8 = .int .i64 x8_3 ∧ Aside0 (slices_stableCmpFunc_Note.l2 kq x0_3 a1 x6_2 x7_3 x8_3 = some r) ∧ Aside0 (kq ≤ k2) ∧ Aside0 (Kd.R k58 58 w' w0.heap.size (fun k_=>(P0_ k_ ∨ w.heap.size ≤ k_)) (.slice Ao9 x0_2.length co9) x0_3) ∧ Aside0 (Kept w w' (fun k_=>P0_ k_)) ∧ Aside0 (Below w0.heap.size w0 w'))
       case atStart=>exact ⟨(x0_2),(0),(wrap64 (2 * x6_2)),(q1_),(q1_),H', ⟨Nat.le_refl _⟩,⟨by (try simp only [hl0_2]);(with_reducible repeat (first | apply Kd.R_alloc | apply Kd.R_drewN | apply Kd.R_drew));exact HO_0.out⟩,⟨q21_⟩,⟨q22_⟩⟩
       case round =>
        clear H';try clear c4
        try clear c4b0
        try clear c11
        try clear c11b0
        obtain ⟨x0_3,x7_3,x8_3,rfl,rfl,HA,HK3,HO_0,HK,HB⟩:=hrel;have hl0_3:=(Kd.R_reads' HO_0.out).1;rw [hl0_3] at HO_0
        (try simp only [hl0_3])
        cases gk with
        | zero=>exact absurd HA.out (by simp [slices_stableCmpFunc_Note.l2])
        | succ k3 =>
         have H:=HA.out;clear HA;simp only [slices_stableCmpFunc_Note.l2] at H;by_cases c12 : x8_3 ≤ a1
         ·rw [if_pos c12] at H;have c12b0 : decide (x8_3 ≤ a1) = true:=decide_eq_true c12;clear c12;replace H:=Option.bind_eq_some_iff.mp H;obtain ⟨t103,A130,H⟩:=H;(try dsimp only at H);have A13:=Aside0.mk A130;clear A130;have H' := Aside0.mk H;clear H;go_wp2_with (first | ((with_reducible refine gate_callee (f:=271) rfl ?_);refine goesL_ (some 43) rfl rfl Try.func271 (by kernel_rfl) rfl #[.slice Ao9 x0_3.length co9,.int .i64 x7_3,.int .i64 (wrap64 (x7_3 + x6_2)),.int .i64 x8_3,.func (.func 249) #[] #[]] rfl (q24_) ?_;(with_reducible refine (slices_symMergeCmpFunc_Note.calls k3 (fun k_=>some k_ = (.slice Ao9 x0_3.length co9 : Value).ownBlock) (.slice Ao9 x0_3.length co9) x0_3 x7_3 (wrap64 (x7_3 + x6_2)) x8_3  t103 w0 _ ?side1 ?side2 A13.out).mono ?_);(case side1=>exact (q22_));(case side2=>exact Kd.R_tight rfl HO_0.out);rintro e w14 ⟨rfl,hy0,hb,hkp⟩;refine ⟨_,rfl,?_⟩;replace HK:=Aside0.mk (Kept.then_ (S:=(fun k_=>P0_ k_)) (q21_) hkp (fun k_ hs_=>(fun e_=>(HO_0.out.1 k_ e_.symm)) hs_));replace HO_0:=Aside0.mk (Kd.R_reok rfl hy0 (fun k_ e_=>HO_0.out.1 k_ e_));replace HB:=Aside0.mk (hb);(try clear hb);(try clear hkp);(try clear hy0)))
          (try simp only [← hl0_3])
          go_roundg k3
          case measure=>have:=HK1.out;have:=HK2.out;have:=HK3.out;omega
          case rel=>exact ⟨(t103),(x8_3),(wrap64 (x8_3 + (wrap64 (2 * x6_2)))),(q1_),(q1_),H', ⟨by have:=HK1.out;have:=HK2.out;have:=HK3.out;omega⟩,⟨by (try simp only [hl0_2]);(try simp only [hl0_3]);(with_reducible repeat (first | apply Kd.R_alloc | apply Kd.R_drewN | apply Kd.R_drew));exact HO_0.out⟩,⟨q21_⟩,⟨q22_⟩⟩
         ·rw [if_neg c12] at H;have c12b0 : decide (x8_3 ≤ a1) = false:=decide_eq_false c12;clear c12;by_cases c15 : (wrap64 (x7_3 + x6_2)) < a1
          ·rw [if_pos c15] at H;have c15b0 : decide ((wrap64 (x7_3 + x6_2)) < a1) = true:=decide_eq_true c15;clear c15;replace H:=Option.bind_eq_some_iff.mp H;obtain ⟨t104,A160,H⟩:=H;(try dsimp only at H);have A16:=Aside0.mk A160;clear A160;have H' := Aside0.mk H;clear H;go_wp2_with (first | ((with_reducible refine gate_callee (f:=271) rfl ?_);refine goesL_ (some 60) rfl rfl Try.func271 (by kernel_rfl) rfl #[.slice Ao9 x0_3.length co9,.int .i64 x7_3,.int .i64 (wrap64 (x7_3 + x6_2)),.int .i64 a1,.func (.func 249) #[] #[]] rfl (q24_) ?_;(with_reducible refine (slices_symMergeCmpFunc_Note.calls k3 (fun k_=>some k_ = (.slice Ao9 x0_3.length co9 : Value).ownBlock) (.slice Ao9 x0_3.length co9) x0_3 x7_3 (wrap64 (x7_3 + x6_2)) a1  t104 w0 _ ?side1 ?side2 A16.out).mono ?_);(case side1=>exact (q22_));(case side2=>exact Kd.R_tight rfl HO_0.out);rintro e w17 ⟨rfl,hy0,hb,hkp⟩;refine ⟨_,rfl,?_⟩;replace HK:=Aside0.mk (Kept.then_ (S:=(fun k_=>P0_ k_)) (q21_) hkp (fun k_ hs_=>(fun e_=>(HO_0.out.1 k_ e_.symm)) hs_));replace HO_0:=Aside0.mk (Kd.R_reok rfl hy0 (fun k_ e_=>HO_0.out.1 k_ e_));replace HB:=Aside0.mk (hb);(try clear hb);(try clear hkp);(try clear hy0)))
           (try simp only [← hl0_2,← hl0_3])
           go_roundg k3
           case measure=>have:=HK1.out;have:=HK2.out;have:=HK3.out;omega
           case rel=>exact ⟨(t104),(wrap64 (x6_2 * 2)),(q1_),H', ⟨by have:=HK1.out;have:=HK2.out;have:=HK3.out;omega⟩,⟨by (try simp only [hl0_2]);(try simp only [hl0_3]);(with_reducible repeat (first | apply Kd.R_alloc | apply Kd.R_drewN | apply Kd.R_drew));exact HO_0.out⟩,⟨q21_⟩,⟨q22_⟩⟩
          ·rw [if_neg c15] at H;have c15b0 : decide ((wrap64 (x7_3 + x6_2)) < a1) = false:=decide_eq_false c15;clear c15;have H' := Aside0.mk H;clear H;go_wp2
           (try simp only [← hl0_2,← hl0_3])
           go_roundg k3
           case measure=>have:=HK1.out;have:=HK2.out;have:=HK3.out;omega
           case rel=>exact ⟨(x0_3),(wrap64 (x6_2 * 2)),(q1_),H', ⟨by have:=HK1.out;have:=HK2.out;have:=HK3.out;omega⟩,⟨by (try simp only [hl0_2]);(try simp only [hl0_3]);(with_reducible repeat (first | apply Kd.R_alloc | apply Kd.R_drewN | apply Kd.R_drew));exact HO_0.out⟩,⟨q21_⟩,⟨q22_⟩⟩
      ·rw [if_neg c11] at H;have c11b0 : decide (x6_2 < a1) = false:=decide_eq_false c11;clear c11;obtain rfl:=Option.some.inj H;go_wp2;first | go_end0 | ((try simp only [Exit.inBlock,Exit.then]);refine bodyPost_ret (results_none rfl _ _ _) rfl ?_)
       exact ⟨q4_,(by first | exact (q6_) | (simp only [hl0_2];exact (q6_))),q22_,q21_⟩
/-! ### slices_SortStableFunc_Note: function 248 -/
def slices_SortStableFunc_Note.f (k : Nat) (l0 : List (S58))  : Option ((List (S58))):=(slices_stableCmpFunc_Note.f k l0 (l0.length : Int)).bind fun t101=>(some t101)
set_option maxHeartbeats 8000000 in
set_option maxRecDepth 100000 in
theorem slices_SortStableFunc_Note.calls (k : Nat) (P0_ : Nat → Prop) (u9000_ : Value) (l0 : List (S58))  (r : List (S58)) (w0 w : World) (hB : Below w0.heap.size w0 w) (ho0 : Kd.R k58 58 w w0.heap.size P0_ u9000_ l0) (h : slices_SortStableFunc_Note.f k l0 = some r) :
  Calls Try.prog 248 #[u9000_,.func (.func 249) #[] #[]] w fun e w' => e = .returned (.tuple #[]) ∧ Kd.R k58 58 w' w0.heap.size (fun k_=>(P0_ k_ ∨ w.heap.size ≤ k_)) u9000_ r ∧ Below w0.heap.size w0 w' ∧ Kept w w' (fun k_=>P0_ k_):=by
 have HO0:=Aside0.mk (show Kd.R k58 58 w w0.heap.size (fun k_=>(P0_ k_ ∨ w.heap.size ≤ k_)) u9000_ l0 from Kd.R_mono ho0 (fun k_ hk=>(.inl hk)));have HK:=Aside0.mk (Kept.refl w (fun k_=>P0_ k_));have HW0:=Aside0.mk hB.size;have HB:=Aside0.mk hB;clear hB;have H : ((slices_stableCmpFunc_Note.f k l0 (l0.length : Int)).bind fun t101=>(some t101)) = some r:=h;clear h;replace H:=Option.bind_eq_some_iff.mp H;obtain ⟨t101,A30,H⟩:=H;(try dsimp only at H);have A3:=Aside0.mk A30;clear A30;obtain rfl:=Option.some.inj H;obtain ⟨Ao4,co4,eo4⟩:=Kd.R_slice HO0.out;subst eo4;go_enter Try.func248,Try.ntmps248
 go_wp2_with (first | ((with_reducible refine gate_callee (f:=266) rfl ?_);refine goesL_ (some 8) rfl rfl Try.func266 (by kernel_rfl) rfl #[.slice Ao4 l0.length co4,.int .i64 (l0.length : Int),.func (.func 249) #[] #[]] rfl (q24_) ?_;(with_reducible refine (slices_stableCmpFunc_Note.calls k (fun k_=>some k_ = (.slice Ao4 l0.length co4 : Value).ownBlock) (.slice Ao4 l0.length co4) l0 (l0.length : Int)  t101 w0 _ ?side1 ?side2 A3.out).mono ?_);(case side1=>exact (q22_));(case side2=>exact Kd.R_tight rfl HO0.out);rintro e w5 ⟨rfl,hy0,hb,hkp⟩;refine ⟨_,rfl,?_⟩;replace HK:=Aside0.mk (Kept.then_ (S:=(fun k_=>P0_ k_)) (q21_) hkp (fun k_ hs_=>(fun e_=>(HO0.out.1 k_ e_.symm)) hs_));replace HO0:=Aside0.mk (Kd.R_reok rfl hy0 (fun k_ e_=>HO0.out.1 k_ e_));replace HB:=Aside0.mk (hb);(try clear hb);(try clear hkp);(try clear hy0)))
 first | go_end0 | ((try simp only [Exit.inBlock,Exit.then]);refine bodyPost_ret (results_none rfl _ _ _) rfl ?_)
 exact ⟨q4_,q5_,q22_,q21_⟩
/-! ### impl_sortedTier: function 193 -/
def impl_sortedTier.f (k : Nat) (l0 : List (S58)) : Option ((List (S58)) × Bool):=(slices_SortStableFunc_Note.f k l0).bind fun t101=>((impl_IsTier.f k t101).bind fun t102=>(if t102 = true then (some (t101,true)) else (some (([] : List (S58)),false))))
set_option maxHeartbeats 8000000 in
set_option maxRecDepth 100000 in
theorem impl_sortedTier.calls (k : Nat) (P0_ : Nat → Prop) (u9000_ : Value) (l0 : List (S58)) (r1 : List (S58)) (r2 : Bool) (w0 w : World) (hB : Below w0.heap.size w0 w) (ho0 : Kd.R k58 58 w w0.heap.size P0_ u9000_ l0) (h : impl_sortedTier.f k l0 = some (r1,r2)) :
  Calls Try.prog 193 #[u9000_] w fun e w' => ∃ v0_ : Value,e = .returned (.tuple #[v0_,.bool r2]) ∧ Kd.R k58 58 w' w0.heap.size (fun k_=>(P0_ k_ ∨ w.heap.size ≤ k_)) v0_ r1 ∧ Below w0.heap.size w0 w' ∧ Kept w w' (fun k_=>P0_ k_):=by
 have HO0:=Aside0.mk (show Kd.R k58 58 w w0.heap.size (fun k_=>(P0_ k_ ∨ w.heap.size ≤ k_)) u9000_ l0 from Kd.R_mono ho0 (fun k_ hk=>(.inl hk)));have HK:=Aside0.mk (Kept.refl w (fun k_=>P0_ k_));have HW0:=Aside0.mk hB.size;have HB:=Aside0.mk hB;clear hB;have H : ((slices_SortStableFunc_Note.f k l0).bind fun t101=>((impl_IsTier.f k t101).bind fun t102=>(if t102 = true then (some (t101,true)) else (some (([] : List (S58)),false))))) = some (r1,r2):=h;clear h;replace H:=Option.bind_eq_some_iff.mp H;obtain ⟨t101,A20,H⟩:=H;(try dsimp only at H);have A2:=Aside0.mk A20;clear A20;replace H:=Option.bind_eq_some_iff.mp H;obtain ⟨t102,A30,H⟩:=H;(try dsimp only at H);have A3:=Aside0.mk A30;clear A30;by_cases c4 : t102 = true
 ·subst c4;have H1 : (some (t101,true)) = some (r1,r2):=by rw [if_pos rfl] at H;exact H
  clear H;have H:=H1;clear H1;simp only [Option.some.injEq,Prod.mk.injEq] at H;obtain ⟨rfl,rfl⟩:=H;obtain ⟨Ao5,co5,eo5⟩:=Kd.R_slice HO0.out;subst eo5;go_enter Try.func193,Try.ntmps193
  go_wp2_with (first | ((with_reducible refine gate_callee (f:=248) rfl ?_);refine goesL_ (some 5) rfl rfl Try.func248 (by kernel_rfl) rfl #[.slice Ao5 l0.length co5,.func (.func 249) #[] #[]] rfl (q24_) ?_;(with_reducible refine (slices_SortStableFunc_Note.calls k (fun k_=>some k_ = (.slice Ao5 l0.length co5 : Value).ownBlock) (.slice Ao5 l0.length co5) l0  t101 w0 _ ?side1 ?side2 A2.out).mono ?_);(case side1=>exact (q22_));(case side2=>exact Kd.R_tight rfl HO0.out);rintro e w6 ⟨rfl,hy0,hb,hkp⟩;refine ⟨_,rfl,?_⟩;replace HK:=Aside0.mk (Kept.then_ (S:=(fun k_=>P0_ k_)) (q21_) hkp (fun k_ hs_=>(fun e_=>(HO0.out.1 k_ e_.symm)) hs_));replace HO0:=Aside0.mk (Kd.R_reok rfl hy0 (fun k_ e_=>HO0.out.1 k_ e_));replace HB:=Aside0.mk (hb);(try clear hb);(try clear hkp);(try clear hy0)) | ((with_reducible refine gate_callee (f:=46) rfl ?_);refine goesL_ (some 7) rfl rfl Try.func46 (by kernel_rfl) rfl #[.slice Ao5 t101.length co5] rfl (by (try simp only [List.map_toArray,List.map_cons,List.map_nil]);first | done | (rw [show t101.length = l0.length from (Kd.R_reads' HO0.out).1.symm] <;> rfl) | rfl | (simp only [List.length_drop,List.length_take];rfl)) ?_;(with_reducible refine (impl_IsTier.calls k _ _ t101 true _ ?side1 ?side2 A3.out).mono ?_);(case side1=>exact cX_ (Kd.R_reads' HO0.out).2.2);(case side2=>rw [show t101.length = l0.length from (Kd.R_reads' HO0.out).1.symm];exact (Kd.R_reads' HO0.out).2.1);rintro e w7 ⟨rfl,hb⟩;refine ⟨_,rfl,?_⟩;replace HO0:=rB_ HO0 hb;replace HK:=Aside0.mk (Kept.below (S:=(fun k_=>P0_ k_)) (q21_) hb);replace HB:=bS_ HB hb;(try clear hb)))
  go_ret2
  exact ⟨_,q4_,q5_,q22_,q21_⟩
 ·replace c4:=Bool.eq_false_iff.mpr c4;subst c4;have H1 : (some (([] : List (S58)),false)) = some (r1,r2):=by rw [if_neg (show ¬ (false = true) by decide)] at H;exact H
  clear H;have H:=H1;clear H1;simp only [Option.some.injEq,Prod.mk.injEq] at H;obtain ⟨rfl,rfl⟩:=H;obtain ⟨Ao8,co8,eo8⟩:=Kd.R_slice HO0.out;subst eo8;go_enter Try.func193,Try.ntmps193
  go_wp2_with (first | ((with_reducible refine gate_callee (f:=248) rfl ?_);refine goesL_ (some 5) rfl rfl Try.func248 (by kernel_rfl) rfl #[.slice Ao8 l0.length co8,.func (.func 249) #[] #[]] rfl (q24_) ?_;(with_reducible refine (slices_SortStableFunc_Note.calls k (fun k_=>some k_ = (.slice Ao8 l0.length co8 : Value).ownBlock) (.slice Ao8 l0.length co8) l0  t101 w0 _ ?side1 ?side2 A2.out).mono ?_);(case side1=>exact (q22_));(case side2=>exact Kd.R_tight rfl HO0.out);rintro e w9 ⟨rfl,hy0,hb,hkp⟩;refine ⟨_,rfl,?_⟩;replace HK:=Aside0.mk (Kept.then_ (S:=(fun k_=>P0_ k_)) (q21_) hkp (fun k_ hs_=>(fun e_=>(HO0.out.1 k_ e_.symm)) hs_));replace HO0:=Aside0.mk (Kd.R_reok rfl hy0 (fun k_ e_=>HO0.out.1 k_ e_));replace HB:=Aside0.mk (hb);(try clear hb);(try clear hkp);(try clear hy0)) | ((with_reducible refine gate_callee (f:=46) rfl ?_);refine goesL_ (some 7) rfl rfl Try.func46 (by kernel_rfl) rfl #[.slice Ao8 t101.length co8] rfl (by (try simp only [List.map_toArray,List.map_cons,List.map_nil]);first | done | (rw [show t101.length = l0.length from (Kd.R_reads' HO0.out).1.symm] <;> rfl) | rfl | (simp only [List.length_drop,List.length_take];rfl)) ?_;(with_reducible refine (impl_IsTier.calls k _ _ t101 false _ ?side1 ?side2 A3.out).mono ?_);(case side1=>exact cX_ (Kd.R_reads' HO0.out).2.2);(case side2=>rw [show t101.length = l0.length from (Kd.R_reads' HO0.out).1.symm];exact (Kd.R_reads' HO0.out).2.1);rintro e w10 ⟨rfl,hb⟩;refine ⟨_,rfl,?_⟩;replace HO0:=rB_ HO0 hb;replace HK:=Aside0.mk (Kept.below (S:=(fun k_=>P0_ k_)) (q21_) hb);replace HB:=bS_ HB hb;(try clear hb)))
  go_ret2
  exact ⟨_,q4_,q25_,q22_,q21_⟩
/-! ### slices_Index_Note: function 254 -/
def slices_Index_Note.l0 : Nat → List (S58) → Int → Int → Int → Int → ByteArray → Option (Int)
 | 0,_,_,_,_,_,_=>none
 | k + 1,x0,x7,x8,x102000,x102001,x102002=>if x8 < x7 then (if 0 ≤ x8 then (if x8 < (x0.length : Int) then (if (x102000 == ((rd_T58 x0 x8).f0) && (x102001 == ((rd_T58 x0 x8).f1) && (x102002.toList == (((rd_T58 x0 x8).f2).toList)))) = true then (some x8) else (slices_Index_Note.l0 k x0 x7 (wrap64 (x8 + 1)) x102000 x102001 x102002)) else (none)) else (none)) else (some (-1))
def slices_Index_Note.f (k : Nat) (l0 : List (S58)) (a1_0 : Int) (a1_1 : Int) (a1_2 : ByteArray) : Option (Int):=slices_Index_Note.l0 k l0 (l0.length : Int) 0 a1_0 a1_1 a1_2
set_option maxHeartbeats 8000000 in
set_option maxRecDepth 100000 in
theorem slices_Index_Note.calls (k : Nat) (A0 : Option Addr) (c0 : Nat) (l0 : List (S58)) (a1_0 : Int) (a1_1 : Int) (a1_2 : ByteArray) (r : Int) (w : World) (hr0 : Kd.C k58 w A0 l0.length l0) (hc0 : l0.length ≤ c0) (h : slices_Index_Note.f k l0 a1_0 a1_1 a1_2 = some r) :
  Calls Try.prog 254 #[.slice A0 l0.length c0,.agg #[.int .i64 a1_0,.int .i64 a1_1,.string a1_2]] w fun e w' => e = .returned (.int .i64 r) ∧ Below w.heap.size w w' := by
 have hu58:=Try.underlying58;have HR0:=Aside0.mk hr0;have HC0:=Aside0.mk hc0;clear hr0 hc0;have HB:=Aside0.mk (Below.refl w.heap.size w);have H : (slices_Index_Note.l0 k l0 (l0.length : Int) 0 a1_0 a1_1 a1_2) = some r:=h;clear h;have H' := Aside0.mk H;clear H;go_enter Try.func254,Try.ntmps254
 go_wp2_with (first | ((with_reducible refine gate_dst (N:=3) rfl ?_);refine box_event ?hg (N:=3) ?hd (cs:=#[.int .i64 a1_0,.int .i64 a1_1,.string a1_2]) (t:=58) ?hr ?_;(case hd=>rfl);(case hg=>rfl);(case hr=>first | (go_simp;done) | (go_simp;rfl));intro gb101 hg w3 hbox hb;have BK101:=Aside0.mk (hbox);have GW101:=Aside0.mk ((q59_ : w.heap.size ≤ gb101));have GE101:=Aside0.mk ((q59_ : w.heap.size ≤ gb101));replace HB:=bS_ HB hb;clear hb hbox hg))
 repeat (go_quiet (first | ((with_reducible refine gate_dst (N:=3) rfl ?_);refine box_event ?hg (N:=3) ?hd (cs:=#[.int .i64 a1_0,.int .i64 a1_1,.string a1_2]) (t:=58) ?hr ?_;(case hd=>rfl);(case hg=>rfl);(case hr=>first | (go_simp;done) | (go_simp;rfl));intro gb101 hg w3 hbox hb;have BK101:=Aside0.mk (hbox);have GW101:=Aside0.mk ((q59_ : w.heap.size ≤ gb101));have GE101:=Aside0.mk ((q59_ : w.heap.size ≤ gb101));replace HB:=bS_ HB hb;clear hb hbox hg));try go_wp2_with (first | ((with_reducible refine gate_dst (N:=3) rfl ?_);refine box_event ?hg (N:=3) ?hd (cs:=#[.int .i64 a1_0,.int .i64 a1_1,.string a1_2]) (t:=58) ?hr ?_;(case hd=>rfl);(case hg=>rfl);(case hr=>first | (go_simp;done) | (go_simp;rfl));intro gb101 hg w3 hbox hb;have BK101:=Aside0.mk (hbox);have GW101:=Aside0.mk ((q59_ : w.heap.size ≤ gb101));have GE101:=Aside0.mk ((q59_ : w.heap.size ≤ gb101));replace HB:=bS_ HB hb;clear hb hbox hg)))
 go_loopg [8] k (fun kq v8 w' => ∃ (x8_1 : Int),v8 = .int .i64 x8_1 ∧ Aside0 (slices_Index_Note.l0 kq l0 (l0.length : Int) x8_1 a1_0 a1_1 a1_2 = some r) ∧ Aside0 (kq ≤ k) ∧ Aside0 (w'.heap[gb101]? = some (.cells #[.int .i64 a1_0,.int .i64 a1_1,.string a1_2] 58 (0,0))) ∧ Aside0 (Below w.heap.size w w'))
 case atStart=>exact ⟨(0),(q1_),H', ⟨Nat.le_refl _⟩,⟨q20_⟩,⟨q28_⟩⟩
 case round =>
  clear H';obtain ⟨x8_1,rfl,HA,HK1,BK101,HB⟩:=hrel;cases gk with
  | zero=>exact absurd HA.out (by simp [slices_Index_Note.l0])
  | succ k1 =>
   have H:=HA.out;clear HA;simp only [slices_Index_Note.l0] at H;by_cases c4 : x8_1 < (l0.length : Int)
   ·rw [if_pos c4] at H;have c4b0 : decide (x8_1 < (l0.length : Int)) = true:=decide_eq_true c4;clear c4;by_cases c5 : 0 ≤ x8_1
    ·rw [if_pos c5] at H;have c5b0 : decide (0 ≤ x8_1) = true:=decide_eq_true c5;clear c5;by_cases c6 : x8_1 < (l0.length : Int)
     ·rw [if_pos c6] at H;have c6b0 : decide (x8_1 < (l0.length : Int)) = true:=decide_eq_true c6;clear c6;by_cases c7 : (a1_0 == ((rd_T58 l0 x8_1).f0) && (a1_1 == ((rd_T58 l0 x8_1).f1) && (a1_2.toList == (((rd_T58 l0 x8_1).f2).toList)))) = true
      ·rw [if_pos c7] at H;have c7b0 : (a1_0 == ((rd_T58 l0 x8_1).f0) && (a1_1 == ((rd_T58 l0 x8_1).f1) && (a1_2.toList == (((rd_T58 l0 x8_1).f2).toList)))) = true:=c7
       (try (have c7b1 : decide (a1_0 = ((rd_T58 l0 x8_1).f0) && (a1_1 == ((rd_T58 l0 x8_1).f1) && (a1_2.toList == (((rd_T58 l0 x8_1).f2).toList)))) = true:=by simpa using c7))
       (try (have c7b2 : (a1_0 == ((rd_T58 l0 x8_1).f0) && (a1_1 == ((rd_T58 l0 x8_1).f1) && (a1_2.toList == (((rd_T58 l0 x8_1).f2).toList)))) = true:=by simpa using c7))
       clear c7;obtain rfl:=Option.some.inj H;obtain ⟨hcz8_0,hcz8_1,hcz8_2,hfz8_0,hfz8_1,hfz8_2⟩:=bx3_ BK101.out;have p102 : 0 ≤ (x8_1 : Int):=of_decide_eq_true (q2_);have q102 : x8_1 < (l0.length : Int):=of_decide_eq_true (q2_);obtain ⟨ad102,e102,hx102_0,hx102_1,hx102_2⟩:=at_T58 HR0.out x8_1 p102 q102;cases e102;replace hx102_0:=hB_ HB.out hx102_0;replace hx102_1:=hB_ HB.out hx102_1;replace hx102_2:=hB_ HB.out hx102_2;replace p102:=eq_true p102;replace q102:=eq_true q102;go_wp2;repeat (go_quiet (fail);try go_wp2)
       go_ret;exact ⟨q4_,q28_⟩
      ·rw [if_neg c7] at H;have c7b0 : (a1_0 == ((rd_T58 l0 x8_1).f0) && (a1_1 == ((rd_T58 l0 x8_1).f1) && (a1_2.toList == (((rd_T58 l0 x8_1).f2).toList)))) = false:=by simpa using c7
       (try (have c7b1 : decide (a1_0 = ((rd_T58 l0 x8_1).f0) && (a1_1 == ((rd_T58 l0 x8_1).f1) && (a1_2.toList == (((rd_T58 l0 x8_1).f2).toList)))) = false:=by simpa using c7))
       (try (have c7b2 : (a1_0 == ((rd_T58 l0 x8_1).f0) && (a1_1 == ((rd_T58 l0 x8_1).f1) && (a1_2.toList == (((rd_T58 l0 x8_1).f2).toList)))) = false:=by simpa using c7))
       (try (have c7b3 : ¬ (a1_0 = ((rd_T58 l0 x8_1).f0) && (a1_1 == ((rd_T58 l0 x8_1).f1) && (a1_2.toList == (((rd_T58 l0 x8_1).f2).toList)))):=by simpa using c7))
       clear c7;have H' := Aside0.mk H;clear H;obtain ⟨hcz9_0,hcz9_1,hcz9_2,hfz9_0,hfz9_1,hfz9_2⟩:=bx3_ BK101.out;have p102 : 0 ≤ (x8_1 : Int):=of_decide_eq_true (q2_);have q102 : x8_1 < (l0.length : Int):=of_decide_eq_true (q2_);obtain ⟨ad102,e102,hx102_0,hx102_1,hx102_2⟩:=at_T58 HR0.out x8_1 p102 q102;cases e102;replace hx102_0:=hB_ HB.out hx102_0;replace hx102_1:=hB_ HB.out hx102_1;replace hx102_2:=hB_ HB.out hx102_2;replace p102:=eq_true p102;replace q102:=eq_true q102;go_wp2;repeat (go_quiet (fail);try go_wp2)
       go_roundg k1
       case measure=>have:=HK1.out;omega
       case rel=>exact ⟨(wrap64 (x8_1 + 1)),(q1_),H', ⟨by have:=HK1.out;omega⟩,⟨q20_⟩,⟨q28_⟩⟩
     ·rw [if_neg c6] at H;exact absurd H (by simp)
    ·rw [if_neg c5] at H;exact absurd H (by simp)
   ·rw [if_neg c4] at H;have c4b0 : decide (x8_1 < (l0.length : Int)) = false:=decide_eq_false c4;clear c4;obtain rfl:=Option.some.inj H;go_wp2;repeat (go_quiet (fail);try go_wp2)
    go_ret;exact ⟨q4_,q28_⟩
/-! ### slices_Contains_Note: function 199 -/
def slices_Contains_Note.f (k : Nat) (l0 : List (S58)) (a1_0 : Int) (a1_1 : Int) (a1_2 : ByteArray) : Option (Bool):=(slices_Index_Note.f k l0 a1_0 a1_1 a1_2).bind fun t102=>(some (decide (t102 ≥ 0)))
set_option maxHeartbeats 8000000 in
set_option maxRecDepth 100000 in
theorem slices_Contains_Note.calls (k : Nat) (A0 : Option Addr) (c0 : Nat) (l0 : List (S58)) (a1_0 : Int) (a1_1 : Int) (a1_2 : ByteArray) (r : Bool) (w : World) (hr0 : Kd.C k58 w A0 l0.length l0) (hc0 : l0.length ≤ c0) (h : slices_Contains_Note.f k l0 a1_0 a1_1 a1_2 = some r) :
  Calls Try.prog 199 #[.slice A0 l0.length c0,.agg #[.int .i64 a1_0,.int .i64 a1_1,.string a1_2]] w fun e w' => e = .returned (.bool r) ∧ Below w.heap.size w w' := by
 have hu58:=Try.underlying58;have HR0:=Aside0.mk hr0;have HC0:=Aside0.mk hc0;clear hr0 hc0;have HB:=Aside0.mk (Below.refl w.heap.size w);have H : ((slices_Index_Note.f k l0 a1_0 a1_1 a1_2).bind fun t102=>(some (decide (t102 ≥ 0)))) = some r:=h;clear h;replace H:=Option.bind_eq_some_iff.mp H;obtain ⟨t102,A30,H⟩:=H;(try dsimp only at H);have A3:=Aside0.mk A30;clear A30;obtain rfl:=Option.some.inj H;go_enter Try.func199,Try.ntmps199
 go_wp2_with (first | ((with_reducible refine gate_dst (N:=3) rfl ?_);refine box_event ?hg (N:=3) ?hd (cs:=#[.int .i64 a1_0,.int .i64 a1_1,.string a1_2]) (t:=58) ?hr ?_;(case hd=>rfl);(case hg=>rfl);(case hr=>first | (go_simp;done) | (go_simp;rfl));intro gb101 hg w4 hbox hb;have BK101:=Aside0.mk (hbox);have GW101:=Aside0.mk ((q59_ : w.heap.size ≤ gb101));have GE101:=Aside0.mk ((q59_ : w.heap.size ≤ gb101));replace HB:=bS_ HB hb;clear hb hbox hg;obtain ⟨hcz5_0,hcz5_1,hcz5_2,hfz5_0,hfz5_1,hfz5_2⟩:=bx3_ BK101.out) | ((with_reducible refine gate_callee (f:=254) rfl ?_);refine goesL_ (some 7) rfl rfl Try.func254 (by kernel_rfl) rfl #[.slice A0 l0.length c0,.agg #[.int .i64 a1_0,.int .i64 a1_1,.string a1_2]] rfl (q24_) ?_;(with_reducible refine (slices_Index_Note.calls k _ _ l0 a1_0 a1_1 a1_2 t102 _ ?side1 ?side2 A3.out).mono ?_);(case side1=>exact cX_ (Kd.C_below HR0.out HB.out));(case side2=>exact HC0.out);rintro e w6 ⟨rfl,hb⟩;refine ⟨_,rfl,?_⟩;replace BK101:=bkB_ BK101 hb;replace HB:=Aside0.mk (below_step (q28_) hb);(try clear hb)))
 go_ret;exact ⟨q4_,q28_⟩
/-! ### slices_ContainsFunc_Note_264: function 264 -/
set_option maxHeartbeats 4000000 in
set_option maxRecDepth 100000 in
theorem slices_ContainsFunc_Note_264.with (p : S58 → Bool) (g : Nat) (lb : Array Value) (eg : ∀ args w,(callFunc g args).run Try.prog w = .ok (.enter g args) w) (A0 : Option Addr) (c0 : Nat) (l0 : List S58) (w : World) (hr0 : Kd.C k58 w A0 l0.length l0)
  (hp : ∀ (W : World) (x : S58),Below w.heap.size w W → Calls Try.prog g (#[.agg #[.int .i64 x.f0,.int .i64 x.f1,.string x.f2]] ++ lb) W fun e w' => e = .returned (.bool (p x)) ∧ Below w.heap.size w w') :
  Calls Try.prog 264 #[.slice A0 l0.length c0,.func (.func g) #[] lb] w fun e w' => e = .returned (.bool (l0.any p)) ∧ Below w.heap.size w w' := by
 have HC:=Aside0.mk (slices_IndexFunc_Note_230.with p g lb eg A0 c0 l0 w hr0 hp);have HE:=Aside0.mk (MFun.idxOf_any p l0);clear hr0 hp eg;generalize l0.any p = q at HE ⊢;generalize idxOf p l0 = z at HC HE;go_enter Try.func264,Try.ntmps264
 go_wp2_with fail
 refine HC.out.mono ?_;clear HC;rintro e w' ⟨rfl,hb⟩;have HB:=Aside0.mk hb;clear hb;go_wp2;go_ret;exact ⟨by rw [← HE.out];rfl,HB.out⟩
/-! ### impl_peaceful: function 244 -/
def impl_peaceful.conf (x y : S58) : Bool:=decide (x.f0 < y.f1) && decide (y.f0 < x.f1) && (!(x.f0 == y.f0) || (!(x.f1 == y.f1) || (!(x.f2.toList == y.f2.toList))))
def impl_peaceful.p (l : List S58) (x : S58) : Bool:=l.any (impl_peaceful.conf x)
def impl_peaceful.f (l0 l1 : List S58) : Option (List S58):=if l0.length * 32 ≤ 140737488355328 then some (l0.filter (fun x=>!impl_peaceful.p l1 x)) else none
theorem impl_peaceful.test (x y : S58) : impl_conflict.f x.f0 x.f1 x.f2 y.f0 y.f1 y.f2 = some (impl_peaceful.conf x y):=by
 unfold impl_conflict.f impl_peaceful.conf;by_cases h1 : x.f0 < y.f1
 ·by_cases h2 : y.f0 < x.f1
  ·rw [if_pos h1,if_pos h2];simp [h1,h2]
  ·rw [if_pos h1,if_neg h2];simp [h2]
 ·rw [if_neg h1];simp [h1]
set_option maxHeartbeats 4000000 in
set_option maxRecDepth 100000 in
theorem impl_peaceful.pred2 (y : S58) (B : Nat) (w : World) (hB : B < w.heap.size) (h0 : w.cell? ⟨B,0,none⟩ = some (.int .i64 y.f0)) (h1 : w.cell? ⟨B,1,none⟩ = some (.int .i64 y.f1)) (h2 : w.cell? ⟨B,2,none⟩ = some (.string y.f2)) (W : World) (x : S58) (hb : Below w.heap.size w W) :
  Calls Try.prog 265 (#[.agg #[.int .i64 x.f0,.int .i64 x.f1,.string x.f2]] ++ #[.pointer (some ⟨B,0,none⟩)]) W fun e w' => e = .returned (.bool (impl_peaceful.conf y x)) ∧ Below w.heap.size w w' := by
 have g0:=(hb.cell (p:=⟨B,0,none⟩) hB).trans h0;have g1:=(hb.cell (p:=⟨B,1,none⟩) hB).trans h1;have g2:=(hb.cell (p:=⟨B,2,none⟩) hB).trans h2;have hBW : B < W.heap.size:=Nat.lt_of_lt_of_le hB hb.size;have hne : B ≠ W.heap.size:=by omega
 have HB:=Aside0.mk hb;have HT:=Aside0.mk (impl_peaceful.test y x);clear h0 h1 h2 hb hB;generalize impl_peaceful.conf y x = q at HT ⊢;show Calls Try.prog 265 #[.agg #[.int .i64 x.f0,.int .i64 x.f1,.string x.f2],.pointer (some ⟨B,0,none⟩)] W _;go_enter Try.func265,Try.ntmps265
 go_wp2_with fail
 refine (impl_conflict.calls _ _ _ _ _ _ _ _ HT.out).mono ?_;rintro e w' ⟨rfl,hb2⟩;have HB2:=Aside0.mk (HB.out.trans ((((Below.refl _ W).alloc (Nat.le_refl _) _).trans (hb2.mono (by simp)) : Below W.heap.size W w').mono HB.out.size));clear hb2 HT;go_wp2;go_ret;exact ⟨rfl,HB2.out⟩
set_option maxHeartbeats 4000000 in
set_option maxRecDepth 100000 in
theorem impl_peaceful.pred (A1 : Option Addr) (c1 : Nat) (l1 : List S58) (B : Nat) (w : World) (hr1 : Kd.C k58 w A1 l1.length l1) (hB : B < w.heap.size) (hb0 : w.cell? ⟨B,0,none⟩ = some (.slice A1 l1.length c1)) (W : World) (x : S58) (hb : Below w.heap.size w W) :
  Calls Try.prog 263 (#[.agg #[.int .i64 x.f0,.int .i64 x.f1,.string x.f2]] ++ #[.pointer (some ⟨B,0,none⟩)]) W fun e w' => e = .returned (.bool (impl_peaceful.p l1 x)) ∧ Below W.heap.size W w' := by
 have hb1 : W.cell? ⟨B,0,none⟩ = some (.slice A1 l1.length c1):=(hb.cell (p:=⟨B,0,none⟩) hB).trans hb0;have hBW : B < W.heap.size:=Nat.lt_of_lt_of_le hB hb.size;have hne : B ≠ W.heap.size:=by omega
 have eg : ∀ args w,(callFunc 265 args).run Try.prog w = .ok (.enter 265 args) w:=goes_in Try.func265 (by kernel_rfl) rfl;obtain ⟨w1,hw1⟩ : ∃ w1,w1 = W.alloc (.cells #[.int .i64 x.f0,.int .i64 x.f1,.string x.f2] 58):=⟨_,rfl⟩;have HW:=Aside0.mk (show Below W.heap.size W w1 by rw [hw1];exact (Below.refl _ W).alloc (Nat.le_refl _) _)
 have HC:=Aside0.mk (slices_ContainsFunc_Note_264.with (impl_peaceful.conf x) 265 #[.pointer (some ⟨W.heap.size,0,none⟩)] eg A1 c1 l1 w1 (Kd.C_below hr1 (hb.trans (HW.out.mono hb.size)))
  (fun W2 y hb2=>impl_peaceful.pred2 x W.heap.size w1 (by rw [hw1];simp) (by rw [hw1];simp) (by rw [hw1];simp) (by rw [hw1];simp) W2 y hb2))
 clear hb0 hb hB hr1 eg;unfold impl_peaceful.p;generalize l1.any (impl_peaceful.conf x) = q at HC ⊢;show Calls Try.prog 263 #[.agg #[.int .i64 x.f0,.int .i64 x.f1,.string x.f2],.pointer (some ⟨B,0,none⟩)] W _;go_enter Try.func263,Try.ntmps263
 go_wp2_with fail
 rw [← hw1];refine HC.out.mono ?_;rintro e w' ⟨rfl,hb2⟩;have HB2:=Aside0.mk (HW.out.trans (hb2.mono HW.out.size));clear hb2 HC hw1;go_wp2;go_ret;exact ⟨rfl,HB2.out⟩
set_option maxHeartbeats 8000000 in
set_option maxRecDepth 100000 in
theorem impl_peaceful.calls (A0 : Option Addr) (c0 : Nat) (l0 : List S58) (A1 : Option Addr) (c1 : Nat) (l1 : List S58) (r : List S58) (w : World) (hr0 : Kd.C k58 w A0 l0.length l0) (hc0 : l0.length ≤ c0) (hr1 : Kd.C k58 w A1 l1.length l1) (_hc1 : l1.length ≤ c1) (h : impl_peaceful.f l0 l1 = some r) :
  Calls Try.prog 244 #[.slice A0 l0.length c0,.slice A1 l1.length c1] w fun e w' => ∃ v0_ : Value,e = .returned v0_ ∧ Kd.R k58 58 w' w.heap.size (fun _=>True) v0_ r ∧ Below w.heap.size w w' := by
 by_cases hL : l0.length * 32 ≤ 140737488355328
 case neg=>simp [impl_peaceful.f,hL] at h
 rw [impl_peaceful.f,if_pos hL] at h;obtain rfl:=Option.some.inj h;clear h;have eg : ∀ args w,(callFunc 263 args).run Try.prog w = .ok (.enter 263 args) w:=goes_in Try.func263 (by kernel_rfl) rfl;have HCL:=Aside0.mk (show slices_Clone_Note.f l0 = some l0 by rw [slices_Clone_Note.f,if_pos hL]);clear hL;obtain ⟨w1,hw1⟩ : ∃ w1,w1 = w.alloc (.cells #[.slice A1 l1.length c1] 30):=⟨_,rfl⟩;have HW:=Aside0.mk (show Below w.heap.size w w1 by rw [hw1];exact (Below.refl _ w).alloc (Nat.le_refl _) (.cells #[.slice A1 l1.length c1] 30));have HSZ:=Aside0.mk (show w1.heap.size = w.heap.size + 1 by rw [hw1];simp);have HCA:=Aside0.mk (show w1.cell? ⟨w.heap.size,0,none⟩ = some (.slice A1 l1.length c1) by rw [hw1];simp);have HR0:=Aside0.mk (Kd.C_below hr0 HW.out);have HR1:=Aside0.mk (Kd.C_below hr1 HW.out);have HC0:=Aside0.mk hc0
 have HTH:=Aside0.mk (fun (A : Option Addr) (c : Nat) (W : World) (hb : Below w1.heap.size w1 W) (hR : Kd.R k58 58 W w1.heap.size (fun _=>True) (.slice A l0.length c) l0) =>
  slices_DeleteFunc_Note.with (impl_peaceful.p l1) 263 #[.pointer (some ⟨w.heap.size,0,none⟩)] eg A c l0 w1 W hb hR
   (fun W2 x hb2=>impl_peaceful.pred A1 c1 l1 w.heap.size w1 HR1.out (by have:=HSZ.out;omega) HCA.out W2 x hb2))
 have HB:=Aside0.mk (Below.refl w1.heap.size w1);clear hr0 hc0 hr1 eg;go_enter Try.func244,Try.ntmps244
 go_wp2_with fail
 rw [← hw1];clear hw1;refine MOwn.named ?_;intro wd hWd;have HB1:=Aside0.mk (show Below w1.heap.size w1 wd by subst hWd;repeat (first | (with_reducible first | exact HB.out | apply pw_below_drewN | apply below_drew1) | exact HB.out));clear HB hWd;refine (slices_Clone_Note.calls _ c0 l0 l0 wd (Kd.C_below HR0.out HB1.out) HC0.out HCL.out).mono ?_;rintro e we ⟨v,rfl,ho,hb⟩;have HO:=Aside0.mk (Kd.R_lower ho HB1.out.size);have HB:=Aside0.mk (HB1.out.trans (hb.mono HB1.out.size));clear ho hb HB1;obtain ⟨Ao,co,rfl⟩:=Kd.R_slice HO.out;go_wp2_with fail
 refine MOwn.named ?_;intro wf hWf;have HB1:=Aside0.mk (show Below w1.heap.size w1 wf by subst hWf;repeat (first | (with_reducible first | exact HB.out | apply pw_below_drewN | apply below_drew1) | exact HB.out));have HO1:=Aside0.mk (show Kd.R k58 58 wf w1.heap.size (fun _=>True) (.slice Ao l0.length co) l0 by subst hWf;(with_reducible repeat (first | apply Kd.R_drewN | apply Kd.R_drew));exact HO.out);clear HB HO hWf;refine (HTH.out Ao co wf HB1.out HO1.out).mono ?_;rintro e wg ⟨v,rfl,ho,hb⟩;have HO:=Aside0.mk (Kd.R_lower ho HW.out.size);have HB:=Aside0.mk hb;clear ho hb HB1 HO1;go_wp2;go_ret;exact ⟨_,rfl,by (with_reducible repeat (first | apply Kd.R_drewN | apply Kd.R_drew));exact HO.out,HW.out.trans (Below.mono (by repeat (first | (with_reducible first | exact HB.out | apply pw_below_drewN | apply below_drew1) | exact HB.out)) HW.out.size)⟩
end Go.Proofs.Ytgapcmmhbegdeaa.G
