-- Written by this session's own program over the kit's print (wip/tools/myprint.py); Lean checks it.
import Derived.Test.YtgapcmmhbegdeaaMBase
import Derived.Test.YtgapcmmhbegdeaaG0
import Derived.Test.YtgapcmmhbegdeaaG1
import Derived.Test.YtgapcmmhbegdeaaG40
import Derived.Test.YtgapcmmhbegdeaaG41
namespace Go.Proofs.Ytgapcmmhbegdeaa.G
open Go.RowKit Go.Proofs.YtgapcmmhbegdeaaW.PrintWords Go.Proofs.YtgapcmmhbegdeaaW.PrintLast Go.Proofs.YtgapcmmhbegdeaaW.PrintMore
attribute [local go_sem] max2_int min2_int max_two min_two max_three min_three max_four min_four str_geq str_gtr str_leq   -- for this text's walks alone
set_option linter.unusedVariables false
set_option linter.unusedSimpArgs false
/-! ### impl_IsNetwork: function 31 -/
def impl_allOf_int.f (l0 : List (List (List Int))) : Option Bool:=some (!l0.any (fun x=>!decide (x.length = l0.length)))
set_option maxHeartbeats 4000000 in
set_option maxRecDepth 100000 in
theorem impl_IsNetwork.lit (A0 : Option Addr) (n c0 B : Nat) (A : Option Addr) (m c : Nat) (W : World) (hb : W.cell? ⟨B,0,none⟩ = some (.slice A0 n c0)) :
  Calls Try.prog 134 #[.slice A m c,.pointer (some ⟨B,0,none⟩)] W fun e w' => e = .returned (.bool (decide (m = n))) ∧ Below W.heap.size W w' := by
 have e1 : ((m : Int) == (n : Int)) = decide (m = n):=by
  by_cases h : m = n
  ·subst h;simp
  ·rw [decide_eq_false h];exact beq_eq_false_iff_ne.mpr (by omega)
 have HB:=Aside0.mk (Below.refl W.heap.size W);generalize decide (m = n) = q at e1 ⊢;go_enter Try.func134,Try.ntmps134
 go_wp2;go_ret;exact ⟨by first | rfl | (simp;done) | (simp [e1];done) | (simp [*];done),q8_⟩
set_option maxHeartbeats 4000000 in
set_option maxRecDepth 100000 in
theorem impl_IsNetwork.pred (A0 : Option Addr) (n c0 B D : Nat) (A : Option Addr) (m c : Nat) (W : World) (hb : W.cell? ⟨B,0,none⟩ = some (.slice A0 n c0)) (hd : W.cell? ⟨D,0,none⟩ = some (.func (.func 134) #[] #[.pointer (some ⟨B,0,none⟩)])) :
  Calls Try.prog 222 (#[.slice A m c] ++ #[.pointer (some ⟨D,0,none⟩)]) W fun e w' => e = .returned (.bool (!decide (m = n))) ∧ Below W.heap.size W w' := by
 have eg : ∀ args w,(callFunc 134 args).run Try.prog w = .ok (.enter 134 args) w:=goes_in Try.func134 (by kernel_rfl) rfl;have HC:=Aside0.mk (impl_IsNetwork.lit A0 n c0 B A m c W hb);clear hb;generalize decide (m = n) = q at HC ⊢;show Calls Try.prog 222 #[.slice A m c,.pointer (some ⟨D,0,none⟩)] W _;go_enter Try.func222,Try.ntmps222
 go_wp2_with fail
 refine HC.out.mono ?_;rintro e w' ⟨rfl,hb⟩;have HB:=Aside0.mk hb;clear hb HC;go_wp2;go_ret;exact ⟨rfl,HB.out⟩
set_option maxHeartbeats 4000000 in
set_option maxRecDepth 100000 in
theorem impl_IsNetwork.allOf (B : Nat) (A0 : Option Addr) (c0 : Nat) (l0 : List (List (List Int))) (b : Bool) (w : World) (hbx : w.cell? ⟨B,0,none⟩ = some (.slice A0 l0.length c0)) (hr0 : Kd.C (Kd.slice 65 (Kd.slice 3 (Kd.int .i64))) w A0 l0.length l0) (h : impl_allOf_int.f l0 = some b) :
  Calls Try.prog 133 #[.slice A0 l0.length c0,.func (.func 134) #[] #[.pointer (some ⟨B,0,none⟩)]] w fun e w' => e = .returned (.bool b) ∧ Below w.heap.size w w' := by
 obtain rfl:=Option.some.inj h;clear h;have eg : ∀ args w,(callFunc 222 args).run Try.prog w = .ok (.enter 222 args) w:=goes_in Try.func222 (by kernel_rfl) rfl;obtain ⟨w1,hw1⟩ : ∃ w1,w1 = w.alloc (.cells #[.func (.func 134) #[] #[.pointer (some ⟨B,0,none⟩)]] 139):=⟨_,rfl⟩;have HW:=Aside0.mk (show Below w.heap.size w w1 by rw [hw1];exact (Below.refl _ w).alloc (Nat.le_refl _) _);have hsz : w.heap.size < w1.heap.size:=by rw [hw1];simp
 have hca : w1.cell? ⟨w.heap.size,0,none⟩ = some (.func (.func 134) #[] #[.pointer (some ⟨B,0,none⟩)]):=by rw [hw1];simp
 have hB : B < w.heap.size:=World.block_lt_of_cell? w _ hbx;have hb1 : w1.cell? ⟨B,0,none⟩ = some (.slice A0 l0.length c0):=(HW.out.cell (p:=⟨B,0,none⟩) hB).trans hbx;have hB1 : B < w1.heap.size:=Nat.lt_trans hB hsz
 have HC:=Aside0.mk (slices_ContainsFunc_int.with (fun x=>!decide (x.length = l0.length)) 222 #[.pointer (some ⟨w.heap.size,0,none⟩)] eg A0 c0 l0 w1 (Kd.C_below hr0 HW.out) (fun W A c x hx hb hr hc =>
  (impl_IsNetwork.pred A0 l0.length c0 B w.heap.size A x.length c W ((hb.cell (p:=⟨B,0,none⟩) hB1).trans hb1) ((hb.cell (p:=⟨w.heap.size,0,none⟩) hsz).trans hca)).mono (fun e w' hh=>⟨hh.1,hb.trans (hh.2.mono hb.size)⟩)))
 clear hr0 eg hca hb1 hB hB1 hbx;generalize l0.any (fun x=>!decide (x.length = l0.length)) = q at HC ⊢;go_enter Try.func133,Try.ntmps133
 go_wp2_with fail
 rw [← hw1];refine HC.out.mono ?_;rintro e w' ⟨rfl,hb⟩;have HB:=Aside0.mk (HW.out.trans (hb.mono (Nat.le_of_lt hsz)));clear hb HC hw1 hsz;go_wp2;go_ret;exact ⟨rfl,HB.out⟩
mutual
def impl_IsNetwork.j0 : Nat → List (List (List Int)) → Bool → Option (Bool)
 | 0,_,_=>none
 | k + 1,x1,x16=>if x16 = true then (some false) else (impl_IsNetwork.l0 k x1 x1 (x1.length : Int) 0)
def impl_IsNetwork.l0 : Nat → List (List (List Int)) → List (List (List Int)) → Int → Int → Option (Bool)
 | 0,_,_,_,_=>none
 | k + 1,x1,x17,x18,x19=>if x19 < x18 then (if 0 ≤ x19 then (if x19 < (x17.length : Int) then (impl_IsNetwork.l1 k x1 x19 (rd_L16 x17 x19) x17 x18 x19 (rd_L16 x17 x19) ((rd_L16 x17 x19).length : Int) 0) else (none)) else (none)) else (some true)
def impl_IsNetwork.l1 : Nat → List (List (List Int)) → Int → List (List Int) → List (List (List Int)) → Int → Int → List (List Int) → Int → Int → Option (Bool)
 | 0,_,_,_,_,_,_,_,_,_=>none
 | k + 1,x1,x3,x4,x17,x18,x19,x24,x25,x26=>if x26 < x25 then (if 0 ≤ x26 then (if x26 < (x24.length : Int) then (if ((rd_L15 x24 x26).length : Int) = 0 then (some false) else ((impl_areRelations.f k (rd_L15 x24 x26)).bind fun t110=>(if t110 = true then (if x26 < (x1.length : Int) then (if 0 ≤ x3 then (if x3 < ((rd_L16 x1 x26).length : Int) then ((impl_inverses.f k (rd_L15 x24 x26)).bind fun t113=>((slices_Equal_int.f k (rd_L15 (rd_L16 x1 x26) x3) t113).bind fun t116=>(if t116 = true then (impl_IsNetwork.l1 k x1 x3 x4 x17 x18 x19 x24 x25 (wrap64 (x26 + 1))) else (some false)))) else (none)) else (none)) else (none)) else (some false)))) else (none)) else (none)) else (if 0 ≤ x3 then (if x3 < (x4.length : Int) then ((slices_Equal_int.f k (rd_L15 x4 x3) (([6] : List Int))).bind fun t108=>(if t108 = true then (impl_IsNetwork.l0 k x1 x17 x18 (wrap64 (x19 + 1))) else (some false))) else (none)) else (none))
end
def impl_IsNetwork.f (k : Nat) (l0 : List (List (List Int))) : Option (Bool):=(impl_within.f (l0.length : Int) 1 6).bind fun t101=>(if t101 = true then ((impl_allOf_int.f l0).bind fun t102=>(impl_IsNetwork.j0 k l0 (!t102))) else (impl_IsNetwork.j0 k l0 true))
def impl_IsNetwork.T9 : Bool × List (List Nat × List Nat):=(true,[([],[]),([0],[0]),([1],[1]),([2],[2]),([3],[3]),([4,3,3],[3,4]),([5,3],[3,5]),([3,6],[3,6]),([7,5],[7]),([8],[8]),([8],[8]),([9,10,8],[8,9,10]),([11,8],[8,11]),([8],[8]),([12,13,8],[8,12,13]),([14,8],[8,14]),([8],[8]),([16,8,8],[8,16]),([15,17,17,8],[8,15,17]),([18,8],[8,18]),([8,19],[8,19])])
def impl_IsNetwork.B9 : List Nat:=[0,1,3,7,15,31,63,127,255,511,511,2047,4095,511,16383,32767,511,66047,262143,524287,1048575]
theorem impl_IsNetwork.tab9 : rtab .any (opsOf Try.f31 9) = impl_IsNetwork.T9:=by kernel_rfl
theorem impl_IsNetwork.bits9 : waitsOk impl_IsNetwork.T9.2 impl_IsNetwork.B9 = true:=by kernel_rfl
set_option maxHeartbeats 8000000 in
set_option maxRecDepth 100000 in
theorem impl_IsNetwork.calls (k : Nat) (A0 : Option Addr) (c0 : Nat) (l0 : List (List (List Int))) (r : Bool) (w : World) (hr0 : Kd.C (Kd.slice 65 (Kd.slice 3 (Kd.int .i64))) w A0 l0.length l0) (hc0 : l0.length ≤ c0) (h : impl_IsNetwork.f k l0 = some r) :
  Calls Try.prog 31 #[.slice A0 l0.length c0] w fun e w' => e = .returned (.bool r) ∧ Below w.heap.size w w' := by
 obtain ⟨w1,hw1⟩ : ∃ w1,w1 = w.alloc (.cells #[.slice A0 l0.length c0] 42):=⟨_,rfl⟩;have HW:=Aside0.mk (show Below w.heap.size w w1 by rw [hw1];exact (Below.refl _ w).alloc (Nat.le_refl _) _);have HS:=Aside0.mk (show w.heap.size < w1.heap.size by rw [hw1];simp);have HX:=Aside0.mk (show w1.cell? ⟨w.heap.size,0,none⟩ = some (.slice A0 l0.length c0) by rw [hw1];simp)
 suffices HG_ : Calls Try.prog 31 #[.slice A0 l0.length c0] w (fun e w' => e = .returned (.bool r) ∧ Below w1.heap.size w1 w') from HG_.mono (fun e w' hh=>⟨hh.1,HW.out.trans (hh.2.mono (Nat.le_of_lt HS.out))⟩)
 have HR0:=Aside0.mk (Kd.C_below hr0 HW.out);have HC0:=Aside0.mk hc0;clear hr0 hc0 HW;have HB:=Aside0.mk (Below.refl w1.heap.size w1);have H : ((impl_within.f (l0.length : Int) 1 6).bind fun t101=>(if t101 = true then ((impl_allOf_int.f l0).bind fun t102=>(impl_IsNetwork.j0 k l0 (!t102))) else (impl_IsNetwork.j0 k l0 true))) = some r:=h;clear h;have HC2:=Aside0.mk H;clear H;go_enter Try.func31,Try.ntmps31
 go_upto_region 1 with (fail)
 rw [← hw1];clear hw1;generalize w.heap.size = bb at HS HX ⊢;go_cut [16] (fun v16 wc=>∃ (kq : Nat) (x16_1 : Bool),v16 = .bool x16_1 ∧ Aside0 (impl_IsNetwork.j0 kq l0 x16_1 = some r) ∧ Aside0 (kq ≤ k) ∧ Aside0 (Below w1.heap.size w1 wc))
 case first =>
  have hbx:=HX.out;have H:=HC2.out;clear HC2;replace H:=Option.bind_eq_some_iff.mp H;obtain ⟨t101,A30,H⟩:=H;(try dsimp only at H);have A3:=Aside0.mk A30;clear A30;by_cases c4 : t101 = true
  ·subst c4;have H1 : ((impl_allOf_int.f l0).bind fun t102=>(impl_IsNetwork.j0 k l0 (!t102))) = some r:=by rw [if_pos rfl] at H;exact H
   clear H;have H:=H1;clear H1;replace H:=Option.bind_eq_some_iff.mp H;obtain ⟨t102,A50,H⟩:=H;(try dsimp only at H);have A5:=Aside0.mk A50;clear A50;have H' := Aside0.mk H;clear H;go_wp2_with (first | ((with_reducible refine gate_callee (f:=132) rfl ?_);refine goesL_ (some 9) rfl rfl Try.func132 (by kernel_rfl) rfl #[.int .i64 (l0.length : Int),.int .i64 1,.int .i64 6] rfl (q9_) ?_;(with_reducible refine (impl_within.calls (l0.length : Int) 1 6 true _ A3.out).mono ?_);rintro e w' ⟨rfl,⟨nd,rfl⟩⟩;refine ⟨_,rfl,?_⟩) | (go_at_call 133;(with_reducible refine (impl_IsNetwork.allOf _ _ _ l0 t102 _ ?side0 ?side1 A5.out).mono ?_);(case side0=>first | exact hbx | simpa using hbx);(case side1=>repeat (first | exact (Kd.C_below HR0.out (q8_)) | (with_reducible refine Kd.C_alloc ?_ _) | (with_reducible refine Kd.C_drewN ?_ _) | (with_reducible refine Kd.C_drew ?_)));rintro e w6 ⟨rfl,hb⟩;replace HB:=bS_ HB hb;(try clear hb)))
   go_meet
   case rel=>exact ⟨_,(!t102),(q1_),H', ⟨by first | omega | exact Nat.le_refl _⟩,⟨q8_⟩⟩
  ·replace c4:=Bool.eq_false_iff.mpr c4;subst c4;have H1 : (impl_IsNetwork.j0 k l0 true) = some r:=by rw [if_neg (show ¬ (false = true) by decide)] at H;exact H
   clear H;have H:=H1;clear H1;have H' := Aside0.mk H;clear H;go_wp2_with (first | ((with_reducible refine gate_callee (f:=132) rfl ?_);refine goesL_ (some 9) rfl rfl Try.func132 (by kernel_rfl) rfl #[.int .i64 (l0.length : Int),.int .i64 1,.int .i64 6] rfl (q9_) ?_;(with_reducible refine (impl_within.calls (l0.length : Int) 1 6 false _ A3.out).mono ?_);rintro e w' ⟨rfl,⟨nd,rfl⟩⟩;refine ⟨_,rfl,?_⟩))
   go_meet
   case rel=>exact ⟨_,(true),(q1_),H', ⟨by first | omega | exact Nat.le_refl _⟩,⟨q8_⟩⟩
 case rest =>
  clear HC2;try clear c4
  obtain ⟨kq,x16_1,rfl,HA,HJ1,HB⟩:=hcut;have hbx:=(HB.out.cell (p:=⟨bb,0,none⟩) HS.out).trans HX.out;cases kq with
  | zero=>exact absurd HA.out (by simp [impl_IsNetwork.j0])
  | succ kj1 =>
   have H:=HA.out;clear HA;simp only [impl_IsNetwork.j0] at H;by_cases c7 : x16_1 = true
   ·subst c7;have H1 : (some false) = some r:=by rw [if_pos rfl] at H;exact H
    clear H;have H:=H1;clear H1;obtain rfl:=Option.some.inj H;go_wp2;go_ret;exact ⟨q4_,q8_⟩
   ·replace c7:=Bool.eq_false_iff.mpr c7;subst c7;have H1 : (impl_IsNetwork.l0 kj1 l0 l0 (l0.length : Int) 0) = some r:=by rw [if_neg (show ¬ (false = true) by decide)] at H;exact H
    clear H;have H:=H1;clear H1;have H' := Aside0.mk H;clear H;go_wp2;go_loopg [19] kj1 (fun kq v19 w' => ∃ (x19_2 : Int),v19 = .int .i64 x19_2 ∧ Aside0 (impl_IsNetwork.l0 kq l0 l0 (l0.length : Int) x19_2 = some r) ∧ Aside0 (kq ≤ kj1) ∧ Aside0 (Below w1.heap.size w1 w'))
    case atStart=>exact ⟨(0),(q1_),H', ⟨Nat.le_refl _⟩,⟨q8_⟩⟩
    case round =>
     clear hbx H';try clear c4
     try clear c7
     obtain ⟨x19_2,rfl,HA,HK2,HB⟩:=hrel;cases gk with
     | zero=>exact absurd HA.out (by simp [impl_IsNetwork.l0])
     | succ k2 =>
      have H:=HA.out;clear HA;simp only [impl_IsNetwork.l0] at H;by_cases c8 : x19_2 < (l0.length : Int)
      ·rw [if_pos c8] at H;have c8b0 : decide (x19_2 < (l0.length : Int)) = true:=decide_eq_true c8;clear c8;by_cases c9 : 0 ≤ x19_2
       ·rw [if_pos c9] at H;have c9b0 : decide (0 ≤ x19_2) = true:=decide_eq_true c9;clear c9;by_cases c10 : x19_2 < (l0.length : Int)
        ·rw [if_pos c10] at H;have c10b0 : decide (x19_2 < (l0.length : Int)) = true:=decide_eq_true c10;clear c10;have H' := Aside0.mk H;clear H;have p103 : 0 ≤ (x19_2 : Int):=of_decide_eq_true (q2_);have q103 : x19_2 < (l0.length : Int):=of_decide_eq_true (q2_);obtain ⟨ad103,A103_0,c103_0,e103,hx103_0,hl103_0,hi103_0⟩:=at_L16 HR0.out x19_2 p103 q103;cases e103;replace hx103_0:=(HB.out.cell (World.block_lt_of_cell? w1 _ hx103_0)).trans hx103_0;have HR103_0:=Aside0.mk hi103_0;have HC103_0:=Aside0.mk hl103_0;clear hi103_0 hl103_0;replace p103:=eq_true p103;replace q103:=eq_true q103;go_wp2;go_loopg [26] k2 (fun kq v26 w' => ∃ (x26_3 : Int),v26 = .int .i64 x26_3 ∧ Aside0 (impl_IsNetwork.l1 kq l0 x19_2 (rd_L16 l0 x19_2) l0 (l0.length : Int) x19_2 (rd_L16 l0 x19_2) ((rd_L16 l0 x19_2).length : Int) x26_3 = some r) ∧ Aside0 (kq ≤ k2) ∧ Aside0 (Below w1.heap.size w1 w'))
         case atStart=>exact ⟨(0),(q1_),H', ⟨Nat.le_refl _⟩,⟨q8_⟩⟩
         case round =>
          clear H';try clear c4
          try clear c7
          try clear c8
          try clear c8b0
          try clear c9
          try clear c9b0
          try clear c10
          try clear c10b0
          try clear hx103_0
          try clear p103
          try clear q103
          obtain ⟨x26_3,rfl,HA,HK3,HB⟩:=hrel;cases gk with
          | zero=>exact absurd HA.out (by simp [impl_IsNetwork.l1])
          | succ k3 =>
           have H:=HA.out;clear HA;simp only [impl_IsNetwork.l1] at H;by_cases c11 : x26_3 < ((rd_L16 l0 x19_2).length : Int)
           ·rw [if_pos c11] at H;have c11b0 : decide (x26_3 < ((rd_L16 l0 x19_2).length : Int)) = true:=decide_eq_true c11;clear c11;by_cases c12 : 0 ≤ x26_3
            ·rw [if_pos c12] at H;have c12b0 : decide (0 ≤ x26_3) = true:=decide_eq_true c12;clear c12;by_cases c13 : x26_3 < ((rd_L16 l0 x19_2).length : Int)
             ·rw [if_pos c13] at H;have c13b0 : decide (x26_3 < ((rd_L16 l0 x19_2).length : Int)) = true:=decide_eq_true c13;clear c13;by_cases c14 : ((rd_L15 (rd_L16 l0 x19_2) x26_3).length : Int) = 0
              ·rw [if_pos c14] at H;have c14b0 : (((rd_L15 (rd_L16 l0 x19_2) x26_3).length : Int) == 0) = true:=beq_iff_eq.mpr c14;have c14b1 : (((rd_L15 (rd_L16 l0 x19_2) x26_3).length : Int) != 0) = false:=bne_eq_false_iff_eq.mpr c14;clear c14;obtain rfl:=Option.some.inj H;have p109 : 0 ≤ (x26_3 : Int):=of_decide_eq_true (q2_);have q109 : x26_3 < ((rd_L16 l0 x19_2).length : Int):=of_decide_eq_true (q2_);obtain ⟨ad109,A109_0,c109_0,e109,hx109_0,hl109_0,hi109_0⟩:=at_L15 HR103_0.out x26_3 p109 q109;cases e109;replace hx109_0:=(HB.out.cell (World.block_lt_of_cell? w1 _ hx109_0)).trans hx109_0;have HR109_0:=Aside0.mk hi109_0;have HC109_0:=Aside0.mk hl109_0;clear hi109_0 hl109_0;replace p109:=eq_true p109;replace q109:=eq_true q109;try go_wp2
               replace HB:=Aside0.mk (below_drew1 HB.out);refine start_ (n:=21) (S:=fun w' => True) (ds:=[]) f0_ (by kernel_rfl) rfl rfl trivial (fun hHeld=>?_);refine with_tabW impl_IsNetwork.tab9 impl_IsNetwork.bits9 (fun HT_ HW_=>?_);generalize wr.drew = w15 at HB hHeld ⊢;refine pure_ (i:=0) (N:=some 31) (v:=?_) (a' := ?_) f1_ rfl rfl (any_of HT_.out (by kernel_rfl)) (fun _ _ _ h=>h) (Or.inl ⟨by rfl,?_⟩) ?_ ?_;rotate_left
               ·intro w';go_simp;with_reducible rfl
               rotate_left
               ·exact q10_
               refine pa_ 1 32 f2_ ?_
               refine pa_ 2 33 f3_ ?_
               refine pa_ 3 34 f4_ ?_
               refine pu_ 4 35 f5_ ?_
               refine pu_ 5 36 f6_ ?_
               refine pu_ 6 37 f7_ ?_
               refine pa_ 7 38 f8_ ?_
               refine pa_ 8 39 f9_ ?_
               refine pu_ 9 40 f10_ ?_
               refine pu_ 10 41 f11_ ?_
               refine pu_ 11 42 f12_ ?_
               refine pu_ 12 43 f13_ ?_
               refine pu_ 13 44 f14_ ?_
               refine pu_ 14 45 f15_ ?_
               refine pu_ 15 46 f16_ ?_
               refine pu_ 16 47 f17_ ?_
               refine pu_ 17 48 f18_ ?_
               refine pu_ 18 49 f19_ ?_
               refine pu_ 19 50 f20_ ?_
               refine pa_ 20 51 f21_ ?_
               refine done_ (done_of HT_.out (by kernel_rfl)) ?_;try go_wp2
               go_ret;exact ⟨q4_,q8_⟩
              ·rw [if_neg c14] at H;have c14b0 : (((rd_L15 (rd_L16 l0 x19_2) x26_3).length : Int) == 0) = false:=beq_eq_false_iff_ne.mpr c14;have c14b1 : (((rd_L15 (rd_L16 l0 x19_2) x26_3).length : Int) != 0) = true:=bne_iff_ne.mpr c14;have c14b2 : ¬ ((rd_L15 (rd_L16 l0 x19_2) x26_3) = []):=fun h_=>c14 (by rw [h_];rfl)
               replace H:=Option.bind_eq_some_iff.mp H;obtain ⟨t110,A160,H⟩:=H;(try dsimp only at H);have A16:=Aside0.mk A160;clear A160;by_cases c17 : t110 = true
               ·subst c17;have H1 : (if x26_3 < (l0.length : Int) then (if 0 ≤ x19_2 then (if x19_2 < ((rd_L16 l0 x26_3).length : Int) then ((impl_inverses.f k3 (rd_L15 (rd_L16 l0 x19_2) x26_3)).bind fun t113=>((slices_Equal_int.f k3 (rd_L15 (rd_L16 l0 x26_3) x19_2) t113).bind fun t116=>(if t116 = true then (impl_IsNetwork.l1 k3 l0 x19_2 (rd_L16 l0 x19_2) l0 (l0.length : Int) x19_2 (rd_L16 l0 x19_2) ((rd_L16 l0 x19_2).length : Int) (wrap64 (x26_3 + 1))) else (some false)))) else (none)) else (none)) else (none)) = some r:=by rw [if_pos rfl] at H;exact H
                clear H;have H:=H1;clear H1;by_cases c18 : x26_3 < (l0.length : Int)
                ·rw [if_pos c18] at H;have c18b0 : decide (x26_3 < (l0.length : Int)) = true:=decide_eq_true c18;clear c18;by_cases c19 : 0 ≤ x19_2
                 ·rw [if_pos c19] at H;have c19b0 : decide (0 ≤ x19_2) = true:=decide_eq_true c19;clear c19;by_cases c20 : x19_2 < ((rd_L16 l0 x26_3).length : Int)
                  ·rw [if_pos c20] at H;have c20b0 : decide (x19_2 < ((rd_L16 l0 x26_3).length : Int)) = true:=decide_eq_true c20;clear c20;replace H:=Option.bind_eq_some_iff.mp H;obtain ⟨t113,A210,H⟩:=H;(try dsimp only at H);have A21:=Aside0.mk A210;clear A210;replace H:=Option.bind_eq_some_iff.mp H;obtain ⟨t116,A220,H⟩:=H;(try dsimp only at H);have A22:=Aside0.mk A220;clear A220;by_cases c23 : t116 = true
                   ·subst c23;have H1 : (impl_IsNetwork.l1 k3 l0 x19_2 (rd_L16 l0 x19_2) l0 (l0.length : Int) x19_2 (rd_L16 l0 x19_2) ((rd_L16 l0 x19_2).length : Int) (wrap64 (x26_3 + 1))) = some r:=by rw [if_pos rfl] at H;exact H
                    clear H;have H:=H1;clear H1;have H' := Aside0.mk H;clear H;have p109 : 0 ≤ (x26_3 : Int):=of_decide_eq_true (q2_);have q109 : x26_3 < ((rd_L16 l0 x19_2).length : Int):=of_decide_eq_true (q2_);obtain ⟨ad109,A109_0,c109_0,e109,hx109_0,hl109_0,hi109_0⟩:=at_L15 HR103_0.out x26_3 p109 q109;cases e109;replace hx109_0:=(HB.out.cell (World.block_lt_of_cell? w1 _ hx109_0)).trans hx109_0;have HR109_0:=Aside0.mk hi109_0;have HC109_0:=Aside0.mk hl109_0;clear hi109_0 hl109_0;replace p109:=eq_true p109;replace q109:=eq_true q109;try go_wp2
                    replace HB:=Aside0.mk (below_drew1 HB.out);have p111 : 0 ≤ (x26_3 : Int):=of_decide_eq_true (q2_);have q111 : x26_3 < (l0.length : Int):=of_decide_eq_true (q2_);obtain ⟨ad111,A111_0,c111_0,e111,hx111_0,hl111_0,hi111_0⟩:=at_L16 HR0.out x26_3 p111 q111;have hw111_0:=hx111_0;obtain rfl : ad103 = ad111:=(by injection e111);replace hx111_0:=(HB.out.cell (World.block_lt_of_cell? w1 _ hx111_0)).trans hx111_0;have HR111_0:=Aside0.mk hi111_0;have HC111_0:=Aside0.mk hl111_0;clear hi111_0 hl111_0;replace p111:=eq_true p111;replace q111:=eq_true q111;have p112 : 0 ≤ (x19_2 : Int):=of_decide_eq_true (q2_);have q112 : x19_2 < ((rd_L16 l0 x26_3).length : Int):=of_decide_eq_true (q2_);obtain ⟨ad112,A112_0,c112_0,e112,hx112_0,hl112_0,hi112_0⟩:=at_L15 HR111_0.out x19_2 p112 q112;have hw112_0:=hx112_0;cases e112;replace hx112_0:=(HB.out.cell (World.block_lt_of_cell? w1 _ hx112_0)).trans hx112_0;have HR112_0:=Aside0.mk hi112_0;have HC112_0:=Aside0.mk hl112_0;clear hi112_0 hl112_0;replace p112:=eq_true p112;replace q112:=eq_true q112;refine start_ (n:=21) (S:=fun w' => w'.cell? (ad103.add (x26_3).toNat) = some (.slice (some ad112) (rd_L16 l0 x26_3).length c111_0) ∧ w'.cell? (ad112.add (x19_2).toNat) = some (.slice A112_0 (rd_L15 (rd_L16 l0 x26_3) x19_2).length c112_0) ∧ w'.cell? ⟨bb,0,none⟩ = some (.slice (some ad103) l0.length c0)) (ds:=[]) f0_ (by kernel_rfl) rfl rfl ⟨((HB.out.cell (World.block_lt_of_cell? w1 _ hw111_0)).trans hw111_0),((HB.out.cell (World.block_lt_of_cell? w1 _ hw112_0)).trans hw112_0),((HB.out.cell (p:=⟨bb,0,none⟩) HS.out).trans HX.out)⟩ (fun hHeld=>?_);refine with_tabW impl_IsNetwork.tab9 impl_IsNetwork.bits9 (fun HT_ HW_=>?_);generalize wr.drew = w24 at HB HR111_0 HR112_0 hx111_0 hx112_0 hHeld ⊢;refine pure_ (i:=0) (N:=some 31) (v:=?_) (a' := ?_) f1_ rfl rfl (any_of HT_.out (by kernel_rfl)) (fun _ _ _ h=>h) (Or.inl ⟨by rfl,?_⟩) ?_ ?_;rotate_left
                    ·intro w';go_simp;with_reducible rfl
                    rotate_left
                    ·exact q10_
                    refine pa_ 1 32 f2_ ?_
                    refine pa_ 2 33 f3_ ?_
                    refine pa_ 3 34 f4_ ?_
                    refine pa_ 4 35 f5_ ?_
                    refine one_ (i:=5) (N:=some 36) f6_ rfl rfl (one_of HT_.out (by kernel_rfl)) (by decide) (fun K hK=>?_);refine goes_ Try.func135 (by kernel_rfl) rfl #[.slice A109_0 (rd_L15 (rd_L16 l0 x19_2) x26_3).length c109_0] (by rfl) rfl rfl (q9_) ?_
                    with_reducible refine (impl_areRelations.calls k3 _ _ (rd_L15 (rd_L16 l0 x19_2) x26_3) true _ ?side1 ?side2 A16.out).mono ?_
                    (case side1=>exact cX_ (Kd.C_below HR109_0.out HB.out))
                    (case side2=>exact HC109_0.out)
                    rintro e w' ⟨rfl,⟨nd,rfl⟩⟩;refine ⟨_,rfl,?_⟩;refine hK.out _ _ ⟨((HB.out.cell (World.block_lt_of_cell? w1 _ hw111_0)).trans hw111_0),((HB.out.cell (World.block_lt_of_cell? w1 _ hw112_0)).trans hw112_0),((HB.out.cell (p:=⟨bb,0,none⟩) HS.out).trans HX.out)⟩ (fun hHeld=>?_);clear hK K;refine norm_ (a' := ?_) ?_ ?_;rotate_left
                    ·show Act.put _ (some 36) _ = _;simp only [Act.put,List.setIfInBounds_toArray,List.set_cons_zero,List.set_cons_succ,i64_w,i32_w];rfl
                    refine pa_ 6 37 f7_ ?_
                    refine pa_ 7 38 f8_ ?_
                    refine pa_ 8 39 f9_ ?_
                    refine pa_ 10 41 f22_ ?_
                    refine pa_ 13 44 f23_ ?_
                    refine pa_ 16 47 f24_ ?_
                    refine take_ (i:=9) (N:=some 40) (v:=?_) (a' := ?_) f25_ rfl rfl (take_ofW HT_.out HW_.out (by kernel_rfl)) (fun _ _ _ h=>h) (Or.inl ⟨by rfl,?_⟩) hHeld ?_ ?_;rotate_left
                    ·rintro w' ⟨s0,s1,s2⟩;go_simp;with_reducible rfl
                    rotate_left
                    ·exact q10_
                    refine pa_ 11 42 f26_ ?_
                    refine take_ (i:=12) (N:=some 43) (v:=?_) (a' := ?_) f27_ rfl rfl (take_ofW HT_.out HW_.out (by kernel_rfl)) (fun _ _ _ h=>h) (Or.inl ⟨by rfl,?_⟩) hHeld ?_ ?_;rotate_left
                    ·rintro w' ⟨s0,s1,s2⟩;go_simp;with_reducible rfl
                    rotate_left
                    ·exact q10_
                    refine pa_ 14 45 f28_ ?_
                    refine take_ (i:=15) (N:=some 46) (v:=?_) (a' := ?_) f17_ rfl rfl (take_ofW HT_.out HW_.out (by kernel_rfl)) (fun _ _ _ h=>h) (Or.inl ⟨by rfl,?_⟩) hHeld ?_ ?_;rotate_left
                    ·rintro w' ⟨s0,s1,s2⟩;go_simp;with_reducible rfl
                    rotate_left
                    ·exact q10_
                    refine one_ (i:=17) (N:=some 48) f18_ rfl rfl (one_of HT_.out (by kernel_rfl)) (by decide) (fun K hK=>?_);refine goes_ Try.func137 (by kernel_rfl) rfl #[.slice A109_0 (rd_L15 (rd_L16 l0 x19_2) x26_3).length c109_0] (by rfl) rfl rfl (q9_) ?_
                    with_reducible refine (impl_inverses.calls k3 _ _ (rd_L15 (rd_L16 l0 x19_2) x26_3) t113 _ ?side1 ?side2 A21.out).mono ?_
                    (case side1=>repeat (first | exact (Kd.C_below HR109_0.out (q8_)) | (with_reducible refine Kd.C_alloc ?_ _) | (with_reducible refine Kd.C_drewN ?_ _) | (with_reducible refine Kd.C_drew ?_)))
                    (case side2=>exact HC109_0.out)
                    rintro e w25 ⟨v114,rfl,ho0,hb⟩;refine ⟨_,rfl,?_⟩;have HO115:=Aside0.mk (Kd.R_lower ho0 (below_size (q8_)));replace HB:=bS_ HB hb
                    (try clear hb)
                    (try clear hb2)
                    (try clear hk)
                    (try clear hi)
                    (try clear ho0)
                    obtain ⟨Ao26,co26,eo26⟩:=Kd.R_slice HO115.out
                    (first | subst eo26 | (injection eo26 with f1_ f2_ f3_;have f4_:=f1_.symm;have f5_:=f3_.symm;clear f1_ f2_ f3_;subst f4_;subst f5_))
                    refine hK.out _ _ ⟨((HB.out.cell (World.block_lt_of_cell? w1 _ hw111_0)).trans hw111_0),((HB.out.cell (World.block_lt_of_cell? w1 _ hw112_0)).trans hw112_0),((HB.out.cell (p:=⟨bb,0,none⟩) HS.out).trans HX.out)⟩ (fun hHeld=>?_);clear hK K;refine norm_ (a' := ?_) ?_ ?_;rotate_left
                    ·show Act.put _ (some 48) _ = _;simp only [Act.put,List.setIfInBounds_toArray,List.set_cons_zero,List.set_cons_succ,i64_w,i32_w];rfl
                    refine one_ (i:=18) (N:=some 49) f19_ rfl rfl (one_of HT_.out (by kernel_rfl)) (by decide) (fun K hK=>?_);refine goes_ Try.func136 (by kernel_rfl) rfl #[.slice A112_0 (rd_L15 (rd_L16 l0 x26_3) x19_2).length c112_0,.slice Ao26 t113.length co26] (by rfl) rfl rfl (q9_) ?_
                    with_reducible refine (slices_Equal_int.calls k3 _ _ (rd_L15 (rd_L16 l0 x26_3) x19_2) _ _ t113 true _ ?side1 ?side2 ?side3 ?side4 A22.out).mono ?_
                    (case side1=>exact cX_ (Kd.C_below HR112_0.out HB.out))
                    (case side2=>exact HC112_0.out)
                    (case side3=>exact cX_ (Kd.R_reads' HO115.out).2.2)
                    (case side4=>exact (Kd.R_reads' HO115.out).2.1)
                    rintro e w' ⟨rfl,⟨nd,rfl⟩⟩;refine ⟨_,rfl,?_⟩;refine hK.out _ _ ⟨((HB.out.cell (World.block_lt_of_cell? w1 _ hw111_0)).trans hw111_0),((HB.out.cell (World.block_lt_of_cell? w1 _ hw112_0)).trans hw112_0),((HB.out.cell (p:=⟨bb,0,none⟩) HS.out).trans HX.out)⟩ (fun hHeld=>?_);clear hK K;refine norm_ (a' := ?_) ?_ ?_;rotate_left
                    ·show Act.put _ (some 49) _ = _;simp only [Act.put,List.setIfInBounds_toArray,List.set_cons_zero,List.set_cons_succ,i64_w,i32_w];rfl
                    refine pa_ 19 50 f20_ ?_
                    refine pa_ 20 51 f21_ ?_
                    refine done_ (done_of HT_.out (by kernel_rfl)) ?_;try go_wp2
                    go_roundg k3
                    case measure=>have:=HJ1.out;have:=HK2.out;have:=HK3.out;omega
                    case rel=>exact ⟨(wrap64 (x26_3 + 1)),(q1_),H', ⟨by have:=HJ1.out;have:=HK2.out;have:=HK3.out;omega⟩,⟨q8_⟩⟩
                   ·replace c23:=Bool.eq_false_iff.mpr c23;subst c23;have H1 : (some false) = some r:=by rw [if_neg (show ¬ (false = true) by decide)] at H;exact H
                    clear H;have H:=H1;clear H1;obtain rfl:=Option.some.inj H;have p109 : 0 ≤ (x26_3 : Int):=of_decide_eq_true (q2_);have q109 : x26_3 < ((rd_L16 l0 x19_2).length : Int):=of_decide_eq_true (q2_);obtain ⟨ad109,A109_0,c109_0,e109,hx109_0,hl109_0,hi109_0⟩:=at_L15 HR103_0.out x26_3 p109 q109;cases e109;replace hx109_0:=(HB.out.cell (World.block_lt_of_cell? w1 _ hx109_0)).trans hx109_0;have HR109_0:=Aside0.mk hi109_0;have HC109_0:=Aside0.mk hl109_0;clear hi109_0 hl109_0;replace p109:=eq_true p109;replace q109:=eq_true q109;try go_wp2
                    replace HB:=Aside0.mk (below_drew1 HB.out);have p111 : 0 ≤ (x26_3 : Int):=of_decide_eq_true (q2_);have q111 : x26_3 < (l0.length : Int):=of_decide_eq_true (q2_);obtain ⟨ad111,A111_0,c111_0,e111,hx111_0,hl111_0,hi111_0⟩:=at_L16 HR0.out x26_3 p111 q111;have hw111_0:=hx111_0;obtain rfl : ad103 = ad111:=(by injection e111);replace hx111_0:=(HB.out.cell (World.block_lt_of_cell? w1 _ hx111_0)).trans hx111_0;have HR111_0:=Aside0.mk hi111_0;have HC111_0:=Aside0.mk hl111_0;clear hi111_0 hl111_0;replace p111:=eq_true p111;replace q111:=eq_true q111;have p112 : 0 ≤ (x19_2 : Int):=of_decide_eq_true (q2_);have q112 : x19_2 < ((rd_L16 l0 x26_3).length : Int):=of_decide_eq_true (q2_);obtain ⟨ad112,A112_0,c112_0,e112,hx112_0,hl112_0,hi112_0⟩:=at_L15 HR111_0.out x19_2 p112 q112;have hw112_0:=hx112_0;cases e112;replace hx112_0:=(HB.out.cell (World.block_lt_of_cell? w1 _ hx112_0)).trans hx112_0;have HR112_0:=Aside0.mk hi112_0;have HC112_0:=Aside0.mk hl112_0;clear hi112_0 hl112_0;replace p112:=eq_true p112;replace q112:=eq_true q112;refine start_ (n:=21) (S:=fun w' => w'.cell? (ad103.add (x26_3).toNat) = some (.slice (some ad112) (rd_L16 l0 x26_3).length c111_0) ∧ w'.cell? (ad112.add (x19_2).toNat) = some (.slice A112_0 (rd_L15 (rd_L16 l0 x26_3) x19_2).length c112_0) ∧ w'.cell? ⟨bb,0,none⟩ = some (.slice (some ad103) l0.length c0)) (ds:=[]) f0_ (by kernel_rfl) rfl rfl ⟨((HB.out.cell (World.block_lt_of_cell? w1 _ hw111_0)).trans hw111_0),((HB.out.cell (World.block_lt_of_cell? w1 _ hw112_0)).trans hw112_0),((HB.out.cell (p:=⟨bb,0,none⟩) HS.out).trans HX.out)⟩ (fun hHeld=>?_);refine with_tabW impl_IsNetwork.tab9 impl_IsNetwork.bits9 (fun HT_ HW_=>?_);generalize wr.drew = w27 at HB HR111_0 HR112_0 hx111_0 hx112_0 hHeld ⊢;refine pure_ (i:=0) (N:=some 31) (v:=?_) (a' := ?_) f1_ rfl rfl (any_of HT_.out (by kernel_rfl)) (fun _ _ _ h=>h) (Or.inl ⟨by rfl,?_⟩) ?_ ?_;rotate_left
                    ·intro w';go_simp;with_reducible rfl
                    rotate_left
                    ·exact q10_
                    refine pa_ 1 32 f2_ ?_
                    refine pa_ 2 33 f3_ ?_
                    refine pa_ 3 34 f4_ ?_
                    refine pa_ 4 35 f5_ ?_
                    refine one_ (i:=5) (N:=some 36) f6_ rfl rfl (one_of HT_.out (by kernel_rfl)) (by decide) (fun K hK=>?_);refine goes_ Try.func135 (by kernel_rfl) rfl #[.slice A109_0 (rd_L15 (rd_L16 l0 x19_2) x26_3).length c109_0] (by rfl) rfl rfl (q9_) ?_
                    with_reducible refine (impl_areRelations.calls k3 _ _ (rd_L15 (rd_L16 l0 x19_2) x26_3) true _ ?side1 ?side2 A16.out).mono ?_
                    (case side1=>exact cX_ (Kd.C_below HR109_0.out HB.out))
                    (case side2=>exact HC109_0.out)
                    rintro e w' ⟨rfl,⟨nd,rfl⟩⟩;refine ⟨_,rfl,?_⟩;refine hK.out _ _ ⟨((HB.out.cell (World.block_lt_of_cell? w1 _ hw111_0)).trans hw111_0),((HB.out.cell (World.block_lt_of_cell? w1 _ hw112_0)).trans hw112_0),((HB.out.cell (p:=⟨bb,0,none⟩) HS.out).trans HX.out)⟩ (fun hHeld=>?_);clear hK K;refine norm_ (a' := ?_) ?_ ?_;rotate_left
                    ·show Act.put _ (some 36) _ = _;simp only [Act.put,List.setIfInBounds_toArray,List.set_cons_zero,List.set_cons_succ,i64_w,i32_w];rfl
                    refine pa_ 6 37 f7_ ?_
                    refine pa_ 7 38 f8_ ?_
                    refine pa_ 8 39 f9_ ?_
                    refine pa_ 10 41 f22_ ?_
                    refine pa_ 13 44 f23_ ?_
                    refine pa_ 16 47 f24_ ?_
                    refine take_ (i:=9) (N:=some 40) (v:=?_) (a' := ?_) f25_ rfl rfl (take_ofW HT_.out HW_.out (by kernel_rfl)) (fun _ _ _ h=>h) (Or.inl ⟨by rfl,?_⟩) hHeld ?_ ?_;rotate_left
                    ·rintro w' ⟨s0,s1,s2⟩;go_simp;with_reducible rfl
                    rotate_left
                    ·exact q10_
                    refine pa_ 11 42 f26_ ?_
                    refine take_ (i:=12) (N:=some 43) (v:=?_) (a' := ?_) f27_ rfl rfl (take_ofW HT_.out HW_.out (by kernel_rfl)) (fun _ _ _ h=>h) (Or.inl ⟨by rfl,?_⟩) hHeld ?_ ?_;rotate_left
                    ·rintro w' ⟨s0,s1,s2⟩;go_simp;with_reducible rfl
                    rotate_left
                    ·exact q10_
                    refine pa_ 14 45 f28_ ?_
                    refine take_ (i:=15) (N:=some 46) (v:=?_) (a' := ?_) f17_ rfl rfl (take_ofW HT_.out HW_.out (by kernel_rfl)) (fun _ _ _ h=>h) (Or.inl ⟨by rfl,?_⟩) hHeld ?_ ?_;rotate_left
                    ·rintro w' ⟨s0,s1,s2⟩;go_simp;with_reducible rfl
                    rotate_left
                    ·exact q10_
                    refine one_ (i:=17) (N:=some 48) f18_ rfl rfl (one_of HT_.out (by kernel_rfl)) (by decide) (fun K hK=>?_);refine goes_ Try.func137 (by kernel_rfl) rfl #[.slice A109_0 (rd_L15 (rd_L16 l0 x19_2) x26_3).length c109_0] (by rfl) rfl rfl (q9_) ?_
                    with_reducible refine (impl_inverses.calls k3 _ _ (rd_L15 (rd_L16 l0 x19_2) x26_3) t113 _ ?side1 ?side2 A21.out).mono ?_
                    (case side1=>repeat (first | exact (Kd.C_below HR109_0.out (q8_)) | (with_reducible refine Kd.C_alloc ?_ _) | (with_reducible refine Kd.C_drewN ?_ _) | (with_reducible refine Kd.C_drew ?_)))
                    (case side2=>exact HC109_0.out)
                    rintro e w28 ⟨v114,rfl,ho0,hb⟩;refine ⟨_,rfl,?_⟩;have HO115:=Aside0.mk (Kd.R_lower ho0 (below_size (q8_)));replace HB:=bS_ HB hb
                    (try clear hb)
                    (try clear hb2)
                    (try clear hk)
                    (try clear hi)
                    (try clear ho0)
                    obtain ⟨Ao29,co29,eo29⟩:=Kd.R_slice HO115.out
                    (first | subst eo29 | (injection eo29 with f1_ f2_ f3_;have f4_:=f1_.symm;have f5_:=f3_.symm;clear f1_ f2_ f3_;subst f4_;subst f5_))
                    refine hK.out _ _ ⟨((HB.out.cell (World.block_lt_of_cell? w1 _ hw111_0)).trans hw111_0),((HB.out.cell (World.block_lt_of_cell? w1 _ hw112_0)).trans hw112_0),((HB.out.cell (p:=⟨bb,0,none⟩) HS.out).trans HX.out)⟩ (fun hHeld=>?_);clear hK K;refine norm_ (a' := ?_) ?_ ?_;rotate_left
                    ·show Act.put _ (some 48) _ = _;simp only [Act.put,List.setIfInBounds_toArray,List.set_cons_zero,List.set_cons_succ,i64_w,i32_w];rfl
                    refine one_ (i:=18) (N:=some 49) f19_ rfl rfl (one_of HT_.out (by kernel_rfl)) (by decide) (fun K hK=>?_);refine goes_ Try.func136 (by kernel_rfl) rfl #[.slice A112_0 (rd_L15 (rd_L16 l0 x26_3) x19_2).length c112_0,.slice Ao29 t113.length co29] (by rfl) rfl rfl (q9_) ?_
                    with_reducible refine (slices_Equal_int.calls k3 _ _ (rd_L15 (rd_L16 l0 x26_3) x19_2) _ _ t113 false _ ?side1 ?side2 ?side3 ?side4 A22.out).mono ?_
                    (case side1=>exact cX_ (Kd.C_below HR112_0.out HB.out))
                    (case side2=>exact HC112_0.out)
                    (case side3=>exact cX_ (Kd.R_reads' HO115.out).2.2)
                    (case side4=>exact (Kd.R_reads' HO115.out).2.1)
                    rintro e w' ⟨rfl,⟨nd,rfl⟩⟩;refine ⟨_,rfl,?_⟩;refine hK.out _ _ ⟨((HB.out.cell (World.block_lt_of_cell? w1 _ hw111_0)).trans hw111_0),((HB.out.cell (World.block_lt_of_cell? w1 _ hw112_0)).trans hw112_0),((HB.out.cell (p:=⟨bb,0,none⟩) HS.out).trans HX.out)⟩ (fun hHeld=>?_);clear hK K;refine norm_ (a' := ?_) ?_ ?_;rotate_left
                    ·show Act.put _ (some 49) _ = _;simp only [Act.put,List.setIfInBounds_toArray,List.set_cons_zero,List.set_cons_succ,i64_w,i32_w];rfl
                    refine pa_ 19 50 f20_ ?_
                    refine pa_ 20 51 f21_ ?_
                    refine done_ (done_of HT_.out (by kernel_rfl)) ?_;try go_wp2
                    go_ret;exact ⟨q4_,q8_⟩
                  ·rw [if_neg c20] at H;exact absurd H (by simp)
                 ·rw [if_neg c19] at H;exact absurd H (by simp)
                ·rw [if_neg c18] at H;exact absurd H (by simp)
               ·replace c17:=Bool.eq_false_iff.mpr c17;subst c17;have H1 : (some false) = some r:=by rw [if_neg (show ¬ (false = true) by decide)] at H;exact H
                clear H;have H:=H1;clear H1;obtain rfl:=Option.some.inj H;have p109 : 0 ≤ (x26_3 : Int):=of_decide_eq_true (q2_);have q109 : x26_3 < ((rd_L16 l0 x19_2).length : Int):=of_decide_eq_true (q2_);obtain ⟨ad109,A109_0,c109_0,e109,hx109_0,hl109_0,hi109_0⟩:=at_L15 HR103_0.out x26_3 p109 q109;cases e109;replace hx109_0:=(HB.out.cell (World.block_lt_of_cell? w1 _ hx109_0)).trans hx109_0;have HR109_0:=Aside0.mk hi109_0;have HC109_0:=Aside0.mk hl109_0;clear hi109_0 hl109_0;replace p109:=eq_true p109;replace q109:=eq_true q109;try go_wp2
                replace HB:=Aside0.mk (below_drew1 HB.out);refine start_ (n:=21) (S:=fun w' => True) (ds:=[]) f0_ (by kernel_rfl) rfl rfl trivial (fun hHeld=>?_);refine with_tabW impl_IsNetwork.tab9 impl_IsNetwork.bits9 (fun HT_ HW_=>?_);generalize wr.drew = w30 at HB hHeld ⊢;refine pure_ (i:=0) (N:=some 31) (v:=?_) (a' := ?_) f1_ rfl rfl (any_of HT_.out (by kernel_rfl)) (fun _ _ _ h=>h) (Or.inl ⟨by rfl,?_⟩) ?_ ?_;rotate_left
                ·intro w';go_simp;with_reducible rfl
                rotate_left
                ·exact q10_
                refine pa_ 1 32 f2_ ?_
                refine pa_ 2 33 f3_ ?_
                refine pa_ 3 34 f4_ ?_
                refine pa_ 4 35 f5_ ?_
                refine one_ (i:=5) (N:=some 36) f6_ rfl rfl (one_of HT_.out (by kernel_rfl)) (by decide) (fun K hK=>?_);refine goes_ Try.func135 (by kernel_rfl) rfl #[.slice A109_0 (rd_L15 (rd_L16 l0 x19_2) x26_3).length c109_0] (by rfl) rfl rfl (q9_) ?_
                with_reducible refine (impl_areRelations.calls k3 _ _ (rd_L15 (rd_L16 l0 x19_2) x26_3) false _ ?side1 ?side2 A16.out).mono ?_
                (case side1=>exact cX_ (Kd.C_below HR109_0.out HB.out))
                (case side2=>exact HC109_0.out)
                rintro e w' ⟨rfl,⟨nd,rfl⟩⟩;refine ⟨_,rfl,?_⟩;refine hK.out _ _ trivial (fun hHeld=>?_);clear hK K;refine norm_ (a' := ?_) ?_ ?_;rotate_left
                ·show Act.put _ (some 36) _ = _;simp only [Act.put,List.setIfInBounds_toArray,List.set_cons_zero,List.set_cons_succ,i64_w,i32_w];rfl
                refine pa_ 6 37 f7_ ?_
                refine pa_ 7 38 f8_ ?_
                refine pa_ 8 39 f9_ ?_
                refine pu_ 9 40 f10_ ?_
                refine pu_ 10 41 f11_ ?_
                refine pu_ 11 42 f12_ ?_
                refine pu_ 12 43 f13_ ?_
                refine pu_ 13 44 f14_ ?_
                refine pu_ 14 45 f15_ ?_
                refine pu_ 15 46 f16_ ?_
                refine pu_ 16 47 f17_ ?_
                refine pu_ 17 48 f18_ ?_
                refine pu_ 18 49 f19_ ?_
                refine pu_ 19 50 f20_ ?_
                refine pa_ 20 51 f21_ ?_
                refine done_ (done_of HT_.out (by kernel_rfl)) ?_;try go_wp2
                go_ret;exact ⟨q4_,q8_⟩
             ·rw [if_neg c13] at H;exact absurd H (by simp)
            ·rw [if_neg c12] at H;exact absurd H (by simp)
           ·rw [if_neg c11] at H;have c11b0 : decide (x26_3 < ((rd_L16 l0 x19_2).length : Int)) = false:=decide_eq_false c11;clear c11;by_cases c31 : 0 ≤ x19_2
            ·rw [if_pos c31] at H;have c31b0 : decide (0 ≤ x19_2) = true:=decide_eq_true c31;clear c31;by_cases c32 : x19_2 < ((rd_L16 l0 x19_2).length : Int)
             ·rw [if_pos c32] at H;have c32b0 : decide (x19_2 < ((rd_L16 l0 x19_2).length : Int)) = true:=decide_eq_true c32;clear c32;obtain ⟨y105,hy105⟩ : ∃ y_ : List Int,y_ = (([6] : List Int)):=⟨_,rfl⟩;replace H : ((slices_Equal_int.f k3 (rd_L15 (rd_L16 l0 x19_2) x19_2) y105).bind fun t108=>(if t108 = true then (impl_IsNetwork.l0 k3 l0 l0 (l0.length : Int) (wrap64 (x19_2 + 1))) else (some false))) = some r:=by first | (rw [hy105];with_reducible exact H) | (have H2_:=(Option.bind_some _ _).symm.trans H;rw [hy105];with_reducible exact H2_) | (have H2_:=(Option.bind_some _ _).symm.trans H;with_reducible exact H2_) | with_reducible exact H | (rw [hy105];exact H) | exact H
              have Ny105:=Aside0.mk hy105;clear hy105;replace H:=Option.bind_eq_some_iff.mp H;obtain ⟨t108,A330,H⟩:=H;(try dsimp only at H);have A33:=Aside0.mk A330;clear A330;by_cases c34 : t108 = true
              ·subst c34;have H1 : (impl_IsNetwork.l0 k3 l0 l0 (l0.length : Int) (wrap64 (x19_2 + 1))) = some r:=by rw [if_pos rfl] at H;exact H
               clear H;have H:=H1;clear H1;have H' := Aside0.mk H;clear H;have p104 : 0 ≤ (x19_2 : Int):=of_decide_eq_true (q2_);have q104 : x19_2 < ((rd_L16 l0 x19_2).length : Int):=of_decide_eq_true (q2_);obtain ⟨ad104,A104_0,c104_0,e104,hx104_0,hl104_0,hi104_0⟩:=at_L15 HR103_0.out x19_2 p104 q104;cases e104;replace hx104_0:=(HB.out.cell (World.block_lt_of_cell? w1 _ hx104_0)).trans hx104_0;have HR104_0:=Aside0.mk hi104_0;have HC104_0:=Aside0.mk hl104_0;clear hi104_0 hl104_0;replace p104:=eq_true p104;replace q104:=eq_true q104;go_wp2_with (first | ((with_reducible refine gate_dst (N:=57) rfl ?_);refine Kd.R_lit (Kd.int .i64) _ 3 ?hg (N:=57) ?hd (xs:=([6] : List Int)) (inner:=[.int .i64 6]) (ok:=fun _=>True) (okp:=fun _=>True) ?hr ?hp (fun _ hk=>hk) trivial (Below.refl _ _) (Nat.le_refl _) (by simp) ?_;(case hd=>rfl);(case hg=>rfl);(case hr=>first | (go_simp;done) | (go_simp;rfl));(case hp=>exact (Reps.one (show Kd.M (Kd.int .i64) _ _ _ 6 [.int .i64 6] from rfl) (Reps.none _ _)));intro v106 w35 ho36 hb hg_ hnew_;clear hg_ hnew_;(first | rw [← Ny105.out] at ho36 | (simp only [Int.reduceToNat] at ho36;rw [← Ny105.out] at ho36));have HO107:=Aside0.mk (Kd.R_lower ho36 (below_size (q8_)));replace HB:=bS_ HB hb;clear hb ho36;obtain ⟨Ao37,co37,eo37⟩:=Kd.R_slice HO107.out;subst eo37) | ((with_reducible refine gate_callee (f:=136) rfl ?_);refine goesL_ (some 58) rfl rfl Try.func136 (by kernel_rfl) rfl #[.slice A104_0 (rd_L15 (rd_L16 l0 x19_2) x19_2).length c104_0,.slice Ao37 y105.length co37] rfl (q9_) ?_;(with_reducible refine (slices_Equal_int.calls k3 _ _ (rd_L15 (rd_L16 l0 x19_2) x19_2) _ _ y105 true _ ?side1 ?side2 ?side3 ?side4 A33.out).mono ?_);(case side1=>exact cX_ (Kd.C_below HR104_0.out HB.out));(case side2=>exact HC104_0.out);(case side3=>exact cX_ (Kd.R_reads' HO107.out).2.2);(case side4=>exact (Kd.R_reads' HO107.out).2.1);rintro e w' ⟨rfl,⟨nd,rfl⟩⟩;refine ⟨_,rfl,?_⟩))
               go_roundg k3
               case measure=>have:=HJ1.out;have:=HK2.out;have:=HK3.out;omega
               case rel=>exact ⟨(wrap64 (x19_2 + 1)),(q1_),H', ⟨by have:=HJ1.out;have:=HK2.out;have:=HK3.out;omega⟩,⟨q8_⟩⟩
              ·replace c34:=Bool.eq_false_iff.mpr c34;subst c34;have H1 : (some false) = some r:=by rw [if_neg (show ¬ (false = true) by decide)] at H;exact H
               clear H;have H:=H1;clear H1;obtain rfl:=Option.some.inj H;have p104 : 0 ≤ (x19_2 : Int):=of_decide_eq_true (q2_);have q104 : x19_2 < ((rd_L16 l0 x19_2).length : Int):=of_decide_eq_true (q2_);obtain ⟨ad104,A104_0,c104_0,e104,hx104_0,hl104_0,hi104_0⟩:=at_L15 HR103_0.out x19_2 p104 q104;cases e104;replace hx104_0:=(HB.out.cell (World.block_lt_of_cell? w1 _ hx104_0)).trans hx104_0;have HR104_0:=Aside0.mk hi104_0;have HC104_0:=Aside0.mk hl104_0;clear hi104_0 hl104_0;replace p104:=eq_true p104;replace q104:=eq_true q104;go_wp2_with (first | ((with_reducible refine gate_dst (N:=57) rfl ?_);refine Kd.R_lit (Kd.int .i64) _ 3 ?hg (N:=57) ?hd (xs:=([6] : List Int)) (inner:=[.int .i64 6]) (ok:=fun _=>True) (okp:=fun _=>True) ?hr ?hp (fun _ hk=>hk) trivial (Below.refl _ _) (Nat.le_refl _) (by simp) ?_;(case hd=>rfl);(case hg=>rfl);(case hr=>first | (go_simp;done) | (go_simp;rfl));(case hp=>exact (Reps.one (show Kd.M (Kd.int .i64) _ _ _ 6 [.int .i64 6] from rfl) (Reps.none _ _)));intro v106 w38 ho39 hb hg_ hnew_;clear hg_ hnew_;(first | rw [← Ny105.out] at ho39 | (simp only [Int.reduceToNat] at ho39;rw [← Ny105.out] at ho39));have HO107:=Aside0.mk (Kd.R_lower ho39 (below_size (q8_)));replace HB:=bS_ HB hb;clear hb ho39;obtain ⟨Ao40,co40,eo40⟩:=Kd.R_slice HO107.out;subst eo40) | ((with_reducible refine gate_callee (f:=136) rfl ?_);refine goesL_ (some 58) rfl rfl Try.func136 (by kernel_rfl) rfl #[.slice A104_0 (rd_L15 (rd_L16 l0 x19_2) x19_2).length c104_0,.slice Ao40 y105.length co40] rfl (q9_) ?_;(with_reducible refine (slices_Equal_int.calls k3 _ _ (rd_L15 (rd_L16 l0 x19_2) x19_2) _ _ y105 false _ ?side1 ?side2 ?side3 ?side4 A33.out).mono ?_);(case side1=>exact cX_ (Kd.C_below HR104_0.out HB.out));(case side2=>exact HC104_0.out);(case side3=>exact cX_ (Kd.R_reads' HO107.out).2.2);(case side4=>exact (Kd.R_reads' HO107.out).2.1);rintro e w' ⟨rfl,⟨nd,rfl⟩⟩;refine ⟨_,rfl,?_⟩))
               go_ret;exact ⟨q4_,q8_⟩
             ·rw [if_neg c32] at H;exact absurd H (by simp)
            ·rw [if_neg c31] at H;exact absurd H (by simp)
        ·rw [if_neg c10] at H;exact absurd H (by simp)
       ·rw [if_neg c9] at H;exact absurd H (by simp)
      ·rw [if_neg c8] at H;have c8b0 : decide (x19_2 < (l0.length : Int)) = false:=decide_eq_false c8;clear c8;obtain rfl:=Option.some.inj H;go_wp2;go_ret;exact ⟨q4_,q8_⟩
end Go.Proofs.Ytgapcmmhbegdeaa.G
