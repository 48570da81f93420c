-- Written by this session's own program over the kit's print (wip/tools/myprint.py); Lean checks it.
import Derived.Test.YtpdcopbnhaoilaaDoorMBase
import Derived.Test.YtpdcopbnhaoilaaDoorG0
import Derived.Test.YtpdcopbnhaoilaaDoorG1
import Derived.Test.YtpdcopbnhaoilaaDoorG3
import Derived.Test.YtpdcopbnhaoilaaDoorG4
import Derived.Test.YtpdcopbnhaoilaaDoorG6
import Derived.Test.YtpdcopbnhaoilaaDoorG25
namespace Go.Proofs.YtpdcopbnhaoilaaDoor.G
open Go.RowKit Go.Proofs.YtpdcopbnhaoilaaDoorW.PrintWords Go.Proofs.YtpdcopbnhaoilaaDoorW.PrintLast Go.Proofs.YtpdcopbnhaoilaaDoorW.PrintMore
attribute [local go_sem] max2_int min2_int max_two min_two max_three min_three max_four min_four str_geq str_gtr str_leq   -- for this text's walks alone
set_option linter.unusedVariables false
set_option linter.unusedSimpArgs false
attribute [local go_sem high] eqA26
/-! ### laws_pSamePeople: function 11 -/
def laws_pSamePeople.l0 : Nat → List (S26) → List (S26) → Int → Int → Option (Bool)
 | 0,_,_,_,_=>none
 | k + 1,x0,x1,x12,x13=>if x13 < x12 then (if 0 ≤ x13 then (if x13 < (x0.length : Int) then (if x13 < (x1.length : Int) then (if (!((((rd_T26 x0 x13).f0).toList) == (((rd_T26 x1 x13).f0).toList)) || (!(((rd_T26 x0 x13).f1) == ((rd_T26 x1 x13).f1)) || (!(((rd_T26 x0 x13).f2) == ((rd_T26 x1 x13).f2)) || (!(((rd_T26 x0 x13).f3) == ((rd_T26 x1 x13).f3)))))) = true then (some false) else (laws_pSamePeople.l0 k x0 x1 x12 (wrap64 (x13 + 1)))) else (none)) else (none)) else (none)) else (some true)
def laws_pSamePeople.f (k : Nat) (l0 : List (S26)) (l1 : List (S26)) : Option (Bool):=if (l0.length : Int) = (l1.length : Int) then (laws_pSamePeople.l0 k l0 l1 (l0.length : Int) 0) else (some false)
set_option maxHeartbeats 8000000 in
set_option maxRecDepth 100000 in
theorem laws_pSamePeople.calls (k : Nat) (A0 : Option Addr) (c0 : Nat) (l0 : List (S26)) (A1 : Option Addr) (c1 : Nat) (l1 : List (S26)) (r : Bool) (w : World) (hr0 : Kd.C k26 w A0 l0.length l0) (hc0 : l0.length ≤ c0) (hr1 : Kd.C k26 w A1 l1.length l1) (hc1 : l1.length ≤ c1) (h : laws_pSamePeople.f k l0 l1 = some r) :
  Calls Tryd.prog 11 #[.slice A0 l0.length c0,.slice A1 l1.length c1] w fun e w' => e = .returned (.bool r) ∧ Drawn0 w w' := by
 have hu26:=Tryd.underlying26;have HR0:=Aside0.mk hr0;have HC0:=Aside0.mk hc0;clear hr0 hc0;have HR1:=Aside0.mk hr1;have HC1:=Aside0.mk hc1;clear hr1 hc1;have H : (if (l0.length : Int) = (l1.length : Int) then (laws_pSamePeople.l0 k l0 l1 (l0.length : Int) 0) else (some false)) = some r:=h;clear h;by_cases c3 : (l0.length : Int) = (l1.length : Int)
 ·rw [if_pos c3] at H;have c3b0 : ((l0.length : Int) == (l1.length : Int)) = true:=beq_iff_eq.mpr c3;have c3b1 : ((l0.length : Int) != (l1.length : Int)) = false:=bne_eq_false_iff_eq.mpr c3;have c3b2 : (l0.length == l1.length) = true:=by first | simpa using c3 | (simp at c3 ⊢;omega)
  clear c3;have H' := Aside0.mk H;clear H;go_enter Tryd.func11,Tryd.ntmps11
  go_wp2;repeat (go_quiet (fail);try go_wp2)
  go_loopg [13] k (fun kq v13 w' => ∃ (x13_1 : Int),v13 = .int .i64 x13_1 ∧ Aside0 (laws_pSamePeople.l0 kq l0 l1 (l0.length : Int) x13_1 = some r) ∧ Aside0 (kq ≤ k) ∧ Drawn0 w w')
  case atStart=>exact ⟨(0),(q1_),H', ⟨Nat.le_refl _⟩,q3_⟩
  case round =>
   clear H';try clear c1
   try clear c3
   try clear c3b0
   try clear c3b1
   try clear c3b2
   obtain ⟨x13_1,rfl,HA,HK1,⟨m1,rfl⟩⟩:=hrel;cases gk with
   | zero=>exact absurd HA.out (by simp [laws_pSamePeople.l0])
   | succ k1 =>
    have H:=HA.out;clear HA;simp only [laws_pSamePeople.l0] at H;by_cases c4 : x13_1 < (l0.length : Int)
    ·rw [if_pos c4] at H;have c4b0 : decide (x13_1 < (l0.length : Int)) = true:=decide_eq_true c4;clear c4;by_cases c5 : 0 ≤ x13_1
     ·rw [if_pos c5] at H;have c5b0 : decide (0 ≤ x13_1) = true:=decide_eq_true c5;clear c5;by_cases c6 : x13_1 < (l0.length : Int)
      ·rw [if_pos c6] at H;have c6b0 : decide (x13_1 < (l0.length : Int)) = true:=decide_eq_true c6;clear c6;by_cases c7 : x13_1 < (l1.length : Int)
       ·rw [if_pos c7] at H;have c7b0 : decide (x13_1 < (l1.length : Int)) = true:=decide_eq_true c7;clear c7;by_cases c8 : (!((((rd_T26 l0 x13_1).f0).toList) == (((rd_T26 l1 x13_1).f0).toList)) || (!(((rd_T26 l0 x13_1).f1) == ((rd_T26 l1 x13_1).f1)) || (!(((rd_T26 l0 x13_1).f2) == ((rd_T26 l1 x13_1).f2)) || (!(((rd_T26 l0 x13_1).f3) == ((rd_T26 l1 x13_1).f3)))))) = true
        ·rw [if_pos c8] at H;have c8b0 : (!((((rd_T26 l0 x13_1).f0).toList) == (((rd_T26 l1 x13_1).f0).toList)) || (!(((rd_T26 l0 x13_1).f1) == ((rd_T26 l1 x13_1).f1)) || (!(((rd_T26 l0 x13_1).f2) == ((rd_T26 l1 x13_1).f2)) || (!(((rd_T26 l0 x13_1).f3) == ((rd_T26 l1 x13_1).f3)))))) = true:=c8;clear c8;obtain rfl:=Option.some.inj H;have p101 : 0 ≤ (x13_1 : Int):=of_decide_eq_true (q2_);have q101 : x13_1 < (l0.length : Int):=of_decide_eq_true (q2_);obtain ⟨ad101,e101,hx101_0,hx101_1,hx101_2,hx101_3⟩:=at_T26 HR0.out x13_1 p101 q101;cases e101;replace p101:=eq_true p101;replace q101:=eq_true q101;have p102 : 0 ≤ (x13_1 : Int):=of_decide_eq_true (q2_);have q102 : x13_1 < (l1.length : Int):=of_decide_eq_true (q2_);obtain ⟨ad102,e102,hx102_0,hx102_1,hx102_2,hx102_3⟩:=at_T26 HR1.out x13_1 p102 q102;cases e102;replace p102:=eq_true p102;replace q102:=eq_true q102;go_wp2;repeat (go_quiet (fail);try go_wp2)
         go_ret;exact ⟨q1_,q3_⟩
        ·rw [if_neg c8] at H;have c8b0 : (!((((rd_T26 l0 x13_1).f0).toList) == (((rd_T26 l1 x13_1).f0).toList)) || (!(((rd_T26 l0 x13_1).f1) == ((rd_T26 l1 x13_1).f1)) || (!(((rd_T26 l0 x13_1).f2) == ((rd_T26 l1 x13_1).f2)) || (!(((rd_T26 l0 x13_1).f3) == ((rd_T26 l1 x13_1).f3)))))) = false:=by simpa using c8
         clear c8;have H' := Aside0.mk H;clear H;have p101 : 0 ≤ (x13_1 : Int):=of_decide_eq_true (q2_);have q101 : x13_1 < (l0.length : Int):=of_decide_eq_true (q2_);obtain ⟨ad101,e101,hx101_0,hx101_1,hx101_2,hx101_3⟩:=at_T26 HR0.out x13_1 p101 q101;cases e101;replace p101:=eq_true p101;replace q101:=eq_true q101;have p102 : 0 ≤ (x13_1 : Int):=of_decide_eq_true (q2_);have q102 : x13_1 < (l1.length : Int):=of_decide_eq_true (q2_);obtain ⟨ad102,e102,hx102_0,hx102_1,hx102_2,hx102_3⟩:=at_T26 HR1.out x13_1 p102 q102;cases e102;replace p102:=eq_true p102;replace q102:=eq_true q102;go_wp2;repeat (go_quiet (fail);try go_wp2)
         go_roundg k1
         case measure=>have:=HK1.out;omega
         case rel=>exact ⟨(wrap64 (x13_1 + 1)),(q1_),H', ⟨by have:=HK1.out;omega⟩,q3_⟩
       ·rw [if_neg c7] at H;exact absurd H (by simp)
      ·rw [if_neg c6] at H;exact absurd H (by simp)
     ·rw [if_neg c5] at H;exact absurd H (by simp)
    ·rw [if_neg c4] at H;have c4b0 : decide (x13_1 < (l0.length : Int)) = false:=decide_eq_false c4;clear c4;obtain rfl:=Option.some.inj H;go_wp2;repeat (go_quiet (fail);try go_wp2)
     go_ret;exact ⟨q1_,q3_⟩
 ·rw [if_neg c3] at H;have c3b0 : ((l0.length : Int) == (l1.length : Int)) = false:=beq_eq_false_iff_ne.mpr c3;have c3b1 : ((l0.length : Int) != (l1.length : Int)) = true:=bne_iff_ne.mpr c3;have c3b2 : (l0.length == l1.length) = false:=by first | simpa using c3 | (simp at c3 ⊢;omega)
  obtain rfl:=Option.some.inj H;go_enter Tryd.func11,Tryd.ntmps11
  go_wp2;repeat (go_quiet (fail);try go_wp2)
  go_ret;exact ⟨q1_,q3_⟩
/-! ### impl_those_Person: function 47 -/
set_option maxHeartbeats 4000000 in
set_option maxRecDepth 100000 in
theorem impl_those_Person.with (p : S26 → Bool) (g : Nat) (lb : Array Value) (eg : ∀ args w,(callFunc g args).run Tryd.prog w = .ok (.enter g args) w) (A0 : Option Addr) (c0 : Nat) (l0 : List S26) (w : World) (hr0 : Kd.C k26 w A0 l0.length l0) (hlen : l0.length ≤ 17592186044416)
  (hp : ∀ (W : World) (x : S26),Below w.heap.size w W → Calls Tryd.prog g (#[.agg #[.string x.f0,.int .i64 x.f1,.int .i64 x.f2,.int .i64 x.f3]] ++ lb) W fun e w' => e = .returned (.bool (p x)) ∧ Below W.heap.size W w') :
  Calls Tryd.prog 47 #[.slice A0 l0.length c0,.func (.func g) #[] lb] w fun e w' => ∃ v : Value,e = .returned v ∧ Kd.R (Kd.int .i64) 3 w' w.heap.size (fun _=>True) v (MFun.places p l0) ∧ Below w.heap.size w w' := by
 have HR:=Aside0.mk hr0;have HP:=Aside0.mk hp;have HL:=Aside0.mk hlen;clear hr0 hp hlen;go_enter Tryd.func47,Tryd.ntmps47
 go_wp2;go_loopg [5,10] l0.length (fun gg s5 s10 wr=>∃ x : Int,s10 = .int .i64 x ∧ Aside0 (0 ≤ x ∧ x ≤ (l0.length : Int) ∧ (l0.length : Int) - x ≤ (gg : Int)) ∧ Aside0 (Kd.R (Kd.int .i64) 3 wr w.heap.size (fun _=>True) s5 (MFun.places p (l0.take x.toNat))) ∧ Aside0 (Below w.heap.size w wr))
 case atStart=>exact ⟨0,rfl,⟨by omega⟩,⟨Kd.R_nil _ _ _ _ _⟩,⟨Below.refl _ w⟩⟩
 case round =>
  obtain ⟨x,rfl,HX,HO,HB⟩:=hrel;by_cases hlt : x < (l0.length : Int)
  ·have p1 : 0 ≤ x:=HX.out.1;have q1:=hlt;have hw : wrap64 (x + 1) = x + 1:=by have:=HL.out;unfold wrap64;omega
   have HW:=Aside0.mk hw;clear hw;have HT:=Aside0.mk (MFun.places_take p l0 z26 x.toNat (by omega));obtain ⟨ad,e,hx0,hx1,hx2,hx3⟩:=at_T26 HR.out x p1 q1;cases e;have BW:=HB
   (replace hx0:=(BW.out.cell (World.block_lt_of_cell? w _ hx0)).trans hx0;replace hx1:=(BW.out.cell (World.block_lt_of_cell? w _ hx1)).trans hx1;replace hx2:=(BW.out.cell (World.block_lt_of_cell? w _ hx2)).trans hx2;replace hx3:=(BW.out.cell (World.block_lt_of_cell? w _ hx3)).trans hx3)
   obtain ⟨y,hy⟩ : ∃ y,rd_T26 l0 x = y:=⟨_,rfl⟩;rw [hy] at hx0 hx1 hx2 hx3;have HY:=Aside0.mk hy;clear hy;have HLT:=Aside0.mk hlt;have b1 : decide (x < (l0.length : Int)) = true:=decide_eq_true hlt;clear hlt;replace p1:=eq_true p1;replace q1:=eq_true q1;go_wp2_with fail
   have hb1:=HB.out.alloc HB.out.size (.cells #[.string y.f0,.int .i64 y.f1,.int .i64 y.f2,.int .i64 y.f3] 26);refine (HP.out _ y hb1).mono ?_;rintro e w2 ⟨rfl,hb2⟩;have HB2:=Aside0.mk (hb1.trans (hb2.mono (by simp;have:=HB.out.size;omega)));have HO2:=Aside0.mk (Kd.R_below (w1:=w2) (by (with_reducible repeat (first | apply Kd.R_alloc | apply Kd.R_drewN | apply Kd.R_drew));exact HO.out : Kd.R (Kd.int .i64) 3 (wr.alloc (.cells #[.string y.f0,.int .i64 y.f1,.int .i64 y.f2,.int .i64 y.f3] 26)) w.heap.size (fun _=>True) u5 (MFun.places p (l0.take x.toNat))) hb2);clear hb1 hb2;have HE:=Aside0.mk (show l0.getD x.toNat z26 = y from HY.out);have HN:=Aside0.mk (show (MFun.places p (l0.take x.toNat)).length ≤ x.toNat from Nat.le_trans (MFun.places_length p _ 0) (by simp;omega));cases hq : p y with
   | true =>
    have HT2:=Aside0.mk (HT.out.trans (by rw [HE.out,hq];rfl : _ = MFun.places p (l0.take x.toNat) ++ [((x.toNat : Nat) : Int)]));have HI:=Aside0.mk (show ((x.toNat : Nat) : Int) = x from Int.toNat_of_nonneg HX.out.1);clear hq HT;go_wp2_with (first | ((with_reducible refine gate_builtin (b:=.append) (xs:=#[.tmp 18,.tmp 20]) rfl ?_);at_builtin;refine Kd.R_append (Kd.int .i64) (w0:=w) w.heap.size rfl (.tmp 18) (.tmp 20) 34 3 (.int .i64 0) 8 rfl Tryd.underlying34 info3 rfl (by decide) (by omega) u5 (MFun.places p (l0.take x.toNat)) x [.int .i64 x] (fun _=>True) (fun _=>False) rfl (by first | (go_simp;done) | (go_simp;rfl)) ?aP (fun _ hk=>hk.elim) ?aF ?aO ?aB ?aS ?aL ?_;(case aP=>exact rfl);(case aF=>exact (fun _ _=>trivial));(case aO=>exact HO2.out);(case aB=>exact HB2.out);(case aS=>exact HB2.out.size);(case aL=>have:=HN.out;have:=HLT.out;have:=HL.out;omega);intro v1 w3 ho hb hg hat;have HO3:=Aside0.mk ho;have HB3:=Aside0.mk hb;clear ho hb hg hat))
    go_roundg (l0.length - (x.toNat + 1))
    case measure=>have:=HX.out;have:=HLT.out;omega
    case rel=>exact ⟨x + 1,by first | rfl | (rw [HW.out]) | (simp [HW.out]),⟨by have:=HX.out;have:=HLT.out;omega⟩,⟨by rw [show (x + 1).toNat = x.toNat + 1 by have:=HX.out;omega,HT2.out,HI.out];exact HO3.out⟩,⟨HB3.out⟩⟩
   | false =>
    have HT2:=Aside0.mk (HT.out.trans (by rw [HE.out,hq];rfl : _ = MFun.places p (l0.take x.toNat)));clear hq HT;go_wp2;go_roundg (l0.length - (x.toNat + 1))
    case measure=>have:=HX.out;have:=HLT.out;omega
    case rel=>exact ⟨x + 1,by first | rfl | (rw [HW.out]) | (simp [HW.out]),⟨by have:=HX.out;have:=HLT.out;omega⟩,⟨by rw [show (x + 1).toNat = x.toNat + 1 by have:=HX.out;omega,HT2.out];exact HO2.out⟩,⟨HB2.out⟩⟩
  ·have b1 : decide (x < (l0.length : Int)) = false:=decide_eq_false hlt;have HLT:=Aside0.mk hlt;have HE:=Aside0.mk (show l0.take x.toNat = l0 from List.take_of_length_le (by have:=HX.out;omega));clear hlt;go_wp2;go_ret;exact ⟨_,rfl,by have h:=HO.out;rw [HE.out] at h;exact h,HB.out⟩
/-! ### impl_Person_clashes: function 49 -/
def impl_Person_clashes.f (a0_0 : ByteArray) (a0_1 : Int) (a0_2 : Int) (a0_3 : Int) (a1 : Int) (a2 : Int) : Option (Bool):=if a0_1 = a1 then (some (a0_2 == a2)) else (some false)
set_option maxHeartbeats 8000000 in
set_option maxRecDepth 100000 in
theorem impl_Person_clashes.calls (a0_0 : ByteArray) (a0_1 : Int) (a0_2 : Int) (a0_3 : Int) (a1 : Int) (a2 : Int) (r : Bool) (w : World) (h : impl_Person_clashes.f a0_0 a0_1 a0_2 a0_3 a1 a2 = some r) :
  Calls Tryd.prog 49 #[.agg #[.string a0_0,.int .i64 a0_1,.int .i64 a0_2,.int .i64 a0_3],.int .i64 a1,.int .i64 a2] w fun e w' => e = .returned (.bool r) ∧ Below w.heap.size w w' := by
 have hu26:=Tryd.underlying26;have HB:=Aside0.mk (Below.refl w.heap.size w);have H : (if a0_1 = a1 then (some (a0_2 == a2)) else (some false)) = some r:=h;clear h;by_cases c4 : a0_1 = a1
 ·rw [if_pos c4] at H;have c4b0 : (a0_1 == a1) = true:=beq_iff_eq.mpr c4;have c4b1 : (a0_1 != a1) = false:=bne_eq_false_iff_eq.mpr c4;clear c4;obtain rfl:=Option.some.inj H;go_enter Tryd.func49,Tryd.ntmps49
  go_wp2_with (first | ((with_reducible refine gate_dst (N:=3) rfl ?_);refine box_event ?hg (N:=3) ?hd (cs:=#[.string a0_0,.int .i64 a0_1,.int .i64 a0_2,.int .i64 a0_3]) (t:=26) ?hr ?_;(case hd=>rfl);(case hg=>rfl);(case hr=>first | (go_simp;done) | (go_simp;rfl));intro gb101 hg w5 hbox hb;have BK101:=Aside0.mk (hbox);have GW101:=Aside0.mk ((q64_ : w.heap.size ≤ gb101));have GE101:=Aside0.mk ((q64_ : w.heap.size ≤ gb101));replace HB:=bS_ HB hb;clear hb hbox hg;have hcz6_0 : w5.cell? ⟨gb101,0,none⟩ = some (.string a0_0):=(blk_cell BK101.out 0).trans rfl;have hcz6_1 : w5.cell? ⟨gb101,1,none⟩ = some (.int .i64 a0_1):=(blk_cell BK101.out 1).trans rfl;have hcz6_2 : w5.cell? ⟨gb101,2,none⟩ = some (.int .i64 a0_2):=(blk_cell BK101.out 2).trans rfl;have hcz6_3 : w5.cell? ⟨gb101,3,none⟩ = some (.int .i64 a0_3):=(blk_cell BK101.out 3).trans rfl;have hfz6_0:=blk_frozen BK101.out 0;have hfz6_1:=blk_frozen BK101.out 1;have hfz6_2:=blk_frozen BK101.out 2;have hfz6_3:=blk_frozen BK101.out 3))
  go_ret;exact ⟨q4_,q40_⟩
 ·rw [if_neg c4] at H;have c4b0 : (a0_1 == a1) = false:=beq_eq_false_iff_ne.mpr c4;have c4b1 : (a0_1 != a1) = true:=bne_iff_ne.mpr c4;obtain rfl:=Option.some.inj H;go_enter Tryd.func49,Tryd.ntmps49
  go_wp2_with (first | ((with_reducible refine gate_dst (N:=3) rfl ?_);refine box_event ?hg (N:=3) ?hd (cs:=#[.string a0_0,.int .i64 a0_1,.int .i64 a0_2,.int .i64 a0_3]) (t:=26) ?hr ?_;(case hd=>rfl);(case hg=>rfl);(case hr=>first | (go_simp;done) | (go_simp;rfl));intro gb101 hg w7 hbox hb;have BK101:=Aside0.mk (hbox);have GW101:=Aside0.mk ((q64_ : w.heap.size ≤ gb101));have GE101:=Aside0.mk ((q64_ : w.heap.size ≤ gb101));replace HB:=bS_ HB hb;clear hb hbox hg;have hcz8_0 : w7.cell? ⟨gb101,0,none⟩ = some (.string a0_0):=(blk_cell BK101.out 0).trans rfl;have hcz8_1 : w7.cell? ⟨gb101,1,none⟩ = some (.int .i64 a0_1):=(blk_cell BK101.out 1).trans rfl;have hcz8_2 : w7.cell? ⟨gb101,2,none⟩ = some (.int .i64 a0_2):=(blk_cell BK101.out 2).trans rfl;have hcz8_3 : w7.cell? ⟨gb101,3,none⟩ = some (.int .i64 a0_3):=(blk_cell BK101.out 3).trans rfl;have hfz8_0:=blk_frozen BK101.out 0;have hfz8_1:=blk_frozen BK101.out 1;have hfz8_2:=blk_frozen BK101.out 2;have hfz8_3:=blk_frozen BK101.out 3))
  go_ret;exact ⟨q4_,q40_⟩
/-! ### impl_WhoIs: function 14 -/
def impl_WhoIs.p (a1 a2 : Int) (x : S26) : Bool:=decide (x.f1 = a1 ∧ x.f2 = a2)
def impl_WhoIs.f (k : Nat) (l0 : List S26) (a1 : Int) (a2 : Int) : Option (List Int × Bool):=(impl_ArePeople.f k l0).bind fun t=>if t = true ∧ (0 ≤ a1 ∧ a1 ≤ 25) ∧ (0 ≤ a2 ∧ a2 ≤ 9) then (if l0.length ≤ 17592186044416 then some (MFun.places (impl_WhoIs.p a1 a2) l0,true) else none) else some ([],false)
theorem impl_WhoIs.win (a b c : Int) : impl_within.f a b c = some (decide (b ≤ a ∧ a ≤ c)):=by
 unfold impl_within.f;by_cases h : a ≥ b
 ·rw [if_pos h];simp [show b ≤ a from h]
 ·rw [if_neg h];simp [show ¬ b ≤ a from h]
theorem impl_WhoIs.test (a1 a2 : Int) (x : S26) : impl_Person_clashes.f x.f0 x.f1 x.f2 x.f3 a1 a2 = some (impl_WhoIs.p a1 a2 x):=by
 unfold impl_Person_clashes.f impl_WhoIs.p;by_cases h : x.f1 = a1
 ·rw [if_pos h];simp [h,Bool.beq_eq_decide_eq]
 ·rw [if_neg h];simp [h]
set_option maxHeartbeats 4000000 in
set_option maxRecDepth 100000 in
theorem impl_WhoIs.pred (a1 a2 : Int) (B C : Nat) (w : World) (hB : B < w.heap.size) (hC : C < w.heap.size) (hb0 : w.cell? ⟨B,0,none⟩ = some (.int .i64 a1)) (hc0 : w.cell? ⟨C,0,none⟩ = some (.int .i64 a2)) (W : World) (x : S26) (hb : Below w.heap.size w W) :
  Calls Tryd.prog 48 (#[.agg #[.string x.f0,.int .i64 x.f1,.int .i64 x.f2,.int .i64 x.f3]] ++ #[.pointer (some ⟨B,0,none⟩),.pointer (some ⟨C,0,none⟩)]) W fun e w' => e = .returned (.bool (impl_WhoIs.p a1 a2 x)) ∧ Below W.heap.size W w' := by
 have hb1 : W.cell? ⟨B,0,none⟩ = some (.int .i64 a1):=(hb.cell (p:=⟨B,0,none⟩) hB).trans hb0;have hc1 : W.cell? ⟨C,0,none⟩ = some (.int .i64 a2):=(hb.cell (p:=⟨C,0,none⟩) hC).trans hc0;have hBW : B < W.heap.size:=Nat.lt_of_lt_of_le hB hb.size;have hne : B ≠ W.heap.size:=by omega
 have hCW : C < W.heap.size:=Nat.lt_of_lt_of_le hC hb.size;have hne2 : C ≠ W.heap.size:=by omega
 have HT:=impl_WhoIs.test a1 a2 x;have HB:=Aside0.mk (Below.refl W.heap.size W);clear hb0 hc0 hb hB hC;generalize impl_WhoIs.p a1 a2 x = q at HT ⊢;have HT' := Aside0.mk HT;clear HT;show Calls Tryd.prog 48 #[.agg #[.string x.f0,.int .i64 x.f1,.int .i64 x.f2,.int .i64 x.f3],.pointer (some ⟨B,0,none⟩),.pointer (some ⟨C,0,none⟩)] W _;go_enter Tryd.func48,Tryd.ntmps48
 go_wp2_with (go_at_call 49;refine (impl_Person_clashes.calls _ _ _ _ _ _ _ _ HT'.out).mono ?_;rintro e w' ⟨rfl,hb2⟩;have HB2:=Aside0.mk hb2;clear hb2)
 go_ret;exact ⟨rfl,(HB.out.alloc HB.out.size _).trans (HB2.out.mono (by simp))⟩
set_option maxHeartbeats 4000000 in
set_option maxRecDepth 100000 in
theorem impl_WhoIs.calls (k : Nat) (A0 : Option Addr) (c0 : Nat) (l0 : List S26) (a1 : Int) (a2 : Int) (r1 : List Int) (r2 : Bool) (w : World) (hr0 : Kd.C k26 w A0 l0.length l0) (hc0 : l0.length ≤ c0) (h : impl_WhoIs.f k l0 a1 a2 = some (r1,r2)) :
  Calls Tryd.prog 14 #[.slice A0 l0.length c0,.int .i64 a1,.int .i64 a2] w fun e w' => ∃ v0_ : Value,e = .returned (.tuple #[v0_,.bool r2]) ∧ Kd.R (Kd.int .i64) 3 w' w.heap.size (fun _=>True) v0_ r1 ∧ Below w.heap.size w w' := by
 obtain ⟨t,ht,h⟩:=Option.bind_eq_some_iff.mp h;have eg : ∀ args w,(callFunc 48 args).run Tryd.prog w = .ok (.enter 48 args) w:=goes_in Tryd.func48 (by kernel_rfl) rfl;have HW:=Aside0.mk (((Below.refl _ w).alloc (Nat.le_refl _) (.cells #[.int .i64 a1] 3)).alloc (by simp) (.cells #[.int .i64 a2] 3));have HT:=Aside0.mk (impl_ArePeople.calls k A0 c0 l0 t _ (Kd.C_below hr0 HW.out) hc0 ht)
 have HTH:=Aside0.mk (fun (hlen : l0.length ≤ 17592186044416) (W : World) (hb : Below ((w.alloc (.cells #[.int .i64 a1] 3)).alloc (.cells #[.int .i64 a2] 3)).heap.size ((w.alloc (.cells #[.int .i64 a1] 3)).alloc (.cells #[.int .i64 a2] 3)) W) =>
  impl_those_Person.with (impl_WhoIs.p a1 a2) 48 #[.pointer (some ⟨w.heap.size,0,none⟩),.pointer (some ⟨w.heap.size + 1,0,none⟩)] eg A0 c0 l0 W (Kd.C_below hr0 (HW.out.trans (hb.mono (by simp;omega)))) hlen
   (fun W2 x hb2=>impl_WhoIs.pred a1 a2 w.heap.size (w.heap.size + 1) W (Nat.lt_of_lt_of_le (by simp;omega) hb.size) (Nat.lt_of_lt_of_le (by simp) hb.size) ((hb.cell (p:=⟨w.heap.size,0,none⟩) (by simp;omega)).trans (by rw [World.cell?_alloc_lt _ _ _ (by simp)];simp)) ((hb.cell (p:=⟨w.heap.size + 1,0,none⟩) (by simp)).trans (by simp)) W2 x hb2))
 have HS:=Aside0.mk (show w.heap.size ≤ ((w.alloc (.cells #[.int .i64 a1] 3)).alloc (.cells #[.int .i64 a2] 3)).heap.size by simp;omega);have HCA:=Aside0.mk (show ((w.alloc (.cells #[.int .i64 a1] 3)).alloc (.cells #[.int .i64 a2] 3)).cell? ⟨w.heap.size,0,none⟩ = some (.int .i64 a1) by rw [World.cell?_alloc_lt _ _ _ (by simp)];simp);have HCB:=Aside0.mk (show ((w.alloc (.cells #[.int .i64 a1] 3)).alloc (.cells #[.int .i64 a2] 3)).cell? ⟨w.heap.size + 1,0,none⟩ = some (.int .i64 a2) by simp);clear ht hr0 hc0 eg;go_enter Tryd.func14,Tryd.ntmps14
 go_wp2_with fail
 refine HT.out.mono ?_;clear HT;rintro e wa ⟨rfl,hb⟩;have HB:=Aside0.mk hb;have hca:=(hb.cell (p:=⟨w.heap.size,0,none⟩) (by simp;omega)).trans HCA.out;have hcb:=(hb.cell (p:=⟨w.heap.size + 1,0,none⟩) (by simp)).trans HCB.out;clear hb HCA HCB;cases t with
 | false =>
  simp only [Bool.false_eq_true,false_and,if_false,Option.some.injEq,Prod.mk.injEq] at h;obtain ⟨rfl,rfl⟩:=h;go_wp2;go_ret2
  exact ⟨_,rfl,Kd.R_nil _ _ _ _ _,HW.out.trans (HB.out.mono HS.out)⟩
 | true =>
  by_cases h1 : 0 ≤ a1 ∧ a1 ≤ 25
  ·have H1:=Aside0.mk (show impl_within.f a1 0 25 = some true by rw [impl_WhoIs.win,decide_eq_true h1]);by_cases h2 : 0 ≤ a2 ∧ a2 ≤ 9
   ·have H2:=Aside0.mk (show impl_within.f a2 0 9 = some true by rw [impl_WhoIs.win,decide_eq_true h2]);by_cases hlen : l0.length ≤ 17592186044416
    case neg=>simp [h1,h2,hlen] at h
    simp only [h1,h2,and_self,if_true,if_pos hlen,Option.some.injEq,Prod.mk.injEq] at h;obtain ⟨rfl,rfl⟩:=h;have HLEN:=Aside0.mk hlen;clear hlen h1 h2;go_wp2_with (first | (go_at_call 45;(with_reducible refine (impl_within.calls _ _ _ _ _ H1.out).mono ?_);rintro e wb ⟨rfl,⟨nd,rfl⟩⟩;have HB' := Aside0.mk (pw_below_drewN HB.out nd);clear HB;have HB:=HB';clear HB') | (go_at_call 45;(with_reducible refine (impl_within.calls _ _ _ _ _ H2.out).mono ?_);rintro e wb ⟨rfl,⟨nd,rfl⟩⟩;have HB' := Aside0.mk (pw_below_drewN HB.out nd);clear HB;have HB:=HB';clear HB'))
    have HBm:=HB.out;rw [World.drewN_drewN] at HBm;clear HB;have HB:=Aside0.mk HBm;clear HBm;refine (HTH.out HLEN.out _ HB.out).mono ?_;rintro e w2 ⟨v,rfl,ho,hb2⟩;have hsz:=HB.out.size;have hs:=HS.out;have HB2:=Aside0.mk (HW.out.trans (HB.out.mono hs) |>.trans (hb2.mono (Nat.le_trans hs hsz)));have HO:=Aside0.mk (Kd.R_lower ho (base' := w.heap.size) (Nat.le_trans hs hsz));clear ho hb2 hsz hs;go_wp2;go_ret2
    exact ⟨_,rfl,HO.out,HB2.out⟩
   ·have H2:=Aside0.mk (show impl_within.f a2 0 9 = some false by rw [impl_WhoIs.win,decide_eq_false h2]);simp only [h2,and_false,if_false,Option.some.injEq,Prod.mk.injEq] at h;obtain ⟨rfl,rfl⟩:=h;clear h1 h2;go_wp2_with (first | (go_at_call 45;(with_reducible refine (impl_within.calls _ _ _ _ _ H1.out).mono ?_);rintro e wb ⟨rfl,⟨nd,rfl⟩⟩;have HB' := Aside0.mk (pw_below_drewN HB.out nd);clear HB;have HB:=HB';clear HB') | (go_at_call 45;(with_reducible refine (impl_within.calls _ _ _ _ _ H2.out).mono ?_);rintro e wb ⟨rfl,⟨nd,rfl⟩⟩;have HB' := Aside0.mk (pw_below_drewN HB.out nd);clear HB;have HB:=HB';clear HB'))
    have HBm:=HB.out;rw [World.drewN_drewN] at HBm;clear HB;have HB:=Aside0.mk HBm;clear HBm;go_ret2
    exact ⟨_,rfl,Kd.R_nil _ _ _ _ _,HW.out.trans (HB.out.mono HS.out)⟩
  ·have H1:=Aside0.mk (show impl_within.f a1 0 25 = some false by rw [impl_WhoIs.win,decide_eq_false h1]);simp only [h1,false_and,and_false,if_false,Option.some.injEq,Prod.mk.injEq] at h;obtain ⟨rfl,rfl⟩:=h;clear h1;go_wp2_with (go_at_call 45;(with_reducible refine (impl_within.calls _ _ _ _ _ H1.out).mono ?_);rintro e wb ⟨rfl,⟨nd,rfl⟩⟩;have HB' := Aside0.mk (pw_below_drewN HB.out nd);clear HB;have HB:=HB';clear HB')
   go_ret2
   exact ⟨_,rfl,Kd.R_nil _ _ _ _ _,HW.out.trans (HB.out.mono HS.out)⟩
/-! ### spec_WhoIs: function 15 -/
mutual
def spec_WhoIs.j0 : Nat → List (S26) → Int → Int → Bool → Option (List Int × Bool)
 | 0,_,_,_,_=>none
 | k + 1,x0,x1,x2,x23=>if x23 = true then (some (([] : List Int),false)) else (spec_WhoIs.l0 k x1 x2 ([] : List Int) x0 (x0.length : Int) 0)
def spec_WhoIs.l0 : Nat → Int → Int → List Int → List (S26) → Int → Int → Option (List Int × Bool)
 | 0,_,_,_,_,_,_=>none
 | k + 1,x1,x2,x8,x24,x25,x26=>if x26 < x25 then (if 0 ≤ x26 then (if x26 < (x24.length : Int) then (if ((rd_T26 x24 x26).f1) = x1 then (if ((rd_T26 x24 x26).f2) = x2 then (if x8.length < 17592186044416 then (spec_WhoIs.l0 k x1 x2 (x8 ++ [x26]) x24 x25 (wrap64 (x26 + 1))) else (none)) else (spec_WhoIs.l0 k x1 x2 x8 x24 x25 (wrap64 (x26 + 1)))) else (spec_WhoIs.l0 k x1 x2 x8 x24 x25 (wrap64 (x26 + 1)))) else (none)) else (none)) else (some (x8,true))
end
def spec_WhoIs.f (k : Nat) (l0 : List (S26)) (a1 : Int) (a2 : Int) : Option (List Int × Bool):=(spec_naGood.f k l0).bind fun t101=>(if t101 = true then ((spec_naLetter.f a1).bind fun t102=>(if t102 = true then ((spec_naPlace.f a2).bind fun t103=>(spec_WhoIs.j0 k l0 a1 a2 (!t103))) else (spec_WhoIs.j0 k l0 a1 a2 true))) else (spec_WhoIs.j0 k l0 a1 a2 true))
section
attribute [local go_sem] MAlive.alive_set MAlive.alive_drewN MAlive.alive_drew MAlive.cell_set_alive
set_option maxHeartbeats 8000000 in
set_option maxRecDepth 100000 in
theorem spec_WhoIs.calls (k : Nat) (A0 : Option Addr) (c0 : Nat) (l0 : List (S26)) (a1 : Int) (a2 : Int) (r1 : List Int) (r2 : Bool) (w : World) (hr0 : Kd.C k26 w A0 l0.length l0) (hc0 : l0.length ≤ c0) (h : spec_WhoIs.f k l0 a1 a2 = some (r1,r2)) :
  Calls Tryd.prog 15 #[.slice A0 l0.length c0,.int .i64 a1,.int .i64 a2] w fun e w' => ∃ v0_ : Value,e = .returned (.tuple #[v0_,.bool r2]) ∧ Kd.R (Kd.int .i64) 3 w' w.heap.size (fun _=>True) v0_ r1 ∧ Below w.heap.size w w' := by
 have hu26:=Tryd.underlying26;have HR0:=Aside0.mk hr0;have HC0:=Aside0.mk hc0;clear hr0 hc0;have HB:=Aside0.mk (Below.refl w.heap.size w);have H : ((spec_naGood.f k l0).bind fun t101=>(if t101 = true then ((spec_naLetter.f a1).bind fun t102=>(if t102 = true then ((spec_naPlace.f a2).bind fun t103=>(spec_WhoIs.j0 k l0 a1 a2 (!t103))) else (spec_WhoIs.j0 k l0 a1 a2 true))) else (spec_WhoIs.j0 k l0 a1 a2 true))) = some (r1,r2):=h;clear h;have HC4:=Aside0.mk H;clear H;go_enter Tryd.func15,Tryd.ntmps15
 go_upto_region 1 with (fail)
 go_cut [23] (fun v23 wc=>∃ (kq : Nat) (x23_3 : Bool),v23 = .bool x23_3 ∧ Aside0 (spec_WhoIs.j0 kq l0 a1 a2 x23_3 = some (r1,r2)) ∧ Aside0 (kq ≤ k) ∧ Aside0 (Below w.heap.size w wc))
 case first =>
  have H:=HC4.out;clear HC4;replace H:=Option.bind_eq_some_iff.mp H;obtain ⟨t101,A50,H⟩:=H;(try dsimp only at H);have A5:=Aside0.mk A50;clear A50;by_cases c6 : t101 = true
  ·subst c6;have H1 : ((spec_naLetter.f a1).bind fun t102=>(if t102 = true then ((spec_naPlace.f a2).bind fun t103=>(spec_WhoIs.j0 k l0 a1 a2 (!t103))) else (spec_WhoIs.j0 k l0 a1 a2 true))) = some (r1,r2):=by rw [if_pos rfl] at H;exact H
   clear H;have H:=H1;clear H1;replace H:=Option.bind_eq_some_iff.mp H;obtain ⟨t102,A70,H⟩:=H;(try dsimp only at H);have A7:=Aside0.mk A70;clear A70;by_cases c8 : t102 = true
   ·subst c8;have H1 : ((spec_naPlace.f a2).bind fun t103=>(spec_WhoIs.j0 k l0 a1 a2 (!t103))) = some (r1,r2):=by rw [if_pos rfl] at H;exact H
    clear H;have H:=H1;clear H1;replace H:=Option.bind_eq_some_iff.mp H;obtain ⟨t103,A90,H⟩:=H;(try dsimp only at H);have A9:=Aside0.mk A90;clear A90;have H' := Aside0.mk H;clear H;go_wp2_with (first | ((with_reducible refine gate_callee (f:=43) rfl ?_);refine goesL_ (some 12) rfl rfl Tryd.func43 (by kernel_rfl) rfl #[.slice A0 l0.length c0] rfl (q34_) ?_;(with_reducible refine (spec_naGood.calls k _ _ l0 true _ ?side1 ?side2 A5.out).mono ?_);(case side1=>exact cX_ (Kd.C_below HR0.out HB.out));(case side2=>exact HC0.out);rintro e w10 ⟨rfl,hb⟩;refine ⟨_,rfl,?_⟩;replace HB:=bS_ HB hb;(try clear hb)) | (go_at_call 50;(with_reducible refine (spec_naLetter.calls a1 true _ A7.out).mono ?_);rintro e w' ⟨rfl,⟨nd,rfl⟩⟩) | (go_at_call 51;(with_reducible refine (spec_naPlace.calls a2 t103 _ A9.out).mono ?_);rintro e w' ⟨rfl,⟨nd,rfl⟩⟩))
    go_meet
    case rel=>exact ⟨_,(!t103),(q1_),H', ⟨by first | omega | exact Nat.le_refl _⟩,⟨q33_⟩⟩
   ·replace c8:=Bool.eq_false_iff.mpr c8;subst c8;have H1 : (spec_WhoIs.j0 k l0 a1 a2 true) = some (r1,r2):=by rw [if_neg (show ¬ (false = true) by decide)] at H;exact H
    clear H;have H:=H1;clear H1;have H' := Aside0.mk H;clear H;go_wp2_with (first | ((with_reducible refine gate_callee (f:=43) rfl ?_);refine goesL_ (some 12) rfl rfl Tryd.func43 (by kernel_rfl) rfl #[.slice A0 l0.length c0] rfl (q34_) ?_;(with_reducible refine (spec_naGood.calls k _ _ l0 true _ ?side1 ?side2 A5.out).mono ?_);(case side1=>exact cX_ (Kd.C_below HR0.out HB.out));(case side2=>exact HC0.out);rintro e w11 ⟨rfl,hb⟩;refine ⟨_,rfl,?_⟩;replace HB:=bS_ HB hb;(try clear hb)) | (go_at_call 50;(with_reducible refine (spec_naLetter.calls a1 false _ A7.out).mono ?_);rintro e w' ⟨rfl,⟨nd,rfl⟩⟩))
    go_meet
    case rel=>exact ⟨_,(true),(q1_),H', ⟨by first | omega | exact Nat.le_refl _⟩,⟨q33_⟩⟩
  ·replace c6:=Bool.eq_false_iff.mpr c6;subst c6;have H1 : (spec_WhoIs.j0 k l0 a1 a2 true) = some (r1,r2):=by rw [if_neg (show ¬ (false = true) by decide)] at H;exact H
   clear H;have H:=H1;clear H1;have H' := Aside0.mk H;clear H;go_wp2_with (first | ((with_reducible refine gate_callee (f:=43) rfl ?_);refine goesL_ (some 12) rfl rfl Tryd.func43 (by kernel_rfl) rfl #[.slice A0 l0.length c0] rfl (q34_) ?_;(with_reducible refine (spec_naGood.calls k _ _ l0 false _ ?side1 ?side2 A5.out).mono ?_);(case side1=>exact cX_ (Kd.C_below HR0.out HB.out));(case side2=>exact HC0.out);rintro e w12 ⟨rfl,hb⟩;refine ⟨_,rfl,?_⟩;replace HB:=bS_ HB hb;(try clear hb)))
   go_meet
   case rel=>exact ⟨_,(true),(q1_),H', ⟨by first | omega | exact Nat.le_refl _⟩,⟨q33_⟩⟩
 case rest =>
  clear HC4;try clear c6
  try clear c8
  obtain ⟨kq,x23_3,rfl,HA,HJ3,HB⟩:=hcut;cases kq with
  | zero=>exact absurd HA.out (by simp [spec_WhoIs.j0])
  | succ kj3 =>
   have H:=HA.out;clear HA;simp only [spec_WhoIs.j0] at H;by_cases c13 : x23_3 = true
   ·subst c13;have H1 : (some (([] : List Int),false)) = some (r1,r2):=by rw [if_pos rfl] at H;exact H
    clear H;have H:=H1;clear H1;simp only [Option.some.injEq,Prod.mk.injEq] at H;obtain ⟨rfl,rfl⟩:=H;go_wp2;go_ret2
    exact ⟨_,q4_,q38_,q33_⟩
   ·replace c13:=Bool.eq_false_iff.mpr c13;subst c13;have H1 : (spec_WhoIs.l0 kj3 a1 a2 ([] : List Int) l0 (l0.length : Int) 0) = some (r1,r2):=by rw [if_neg (show ¬ (false = true) by decide)] at H;exact H
    clear H;have H:=H1;clear H1;have H' := Aside0.mk H;clear H;go_wp2;go_loopg [8,26] kj3 (fun kq v8 v26 w' => ∃ (x8_2 : List Int) (x26_2 : Int),v26 = .int .i64 x26_2 ∧ Aside0 (spec_WhoIs.l0 kq a1 a2 x8_2 l0 (l0.length : Int) x26_2 = some (r1,r2)) ∧ Aside0 (kq ≤ kj3) ∧ Aside0 (Kd.R (Kd.int .i64) 3 w' w.heap.size (fun _=>True) v8 x8_2) ∧ Aside0 (Below w.heap.size w w'))
    case atStart=>exact ⟨(([] : List Int)),(0),(q1_),H', ⟨Nat.le_refl _⟩,⟨q38_⟩,⟨q33_⟩⟩
    case round =>
     clear H';try clear c6
     try clear c8
     try clear c13
     obtain ⟨x8_2,x26_2,rfl,HA,HK2,HO_8,HB⟩:=hrel;cases gk with
     | zero=>exact absurd HA.out (by simp [spec_WhoIs.l0])
     | succ k2 =>
      have H:=HA.out;clear HA;simp only [spec_WhoIs.l0] at H;by_cases c14 : x26_2 < (l0.length : Int)
      ·rw [if_pos c14] at H;have c14b0 : decide (x26_2 < (l0.length : Int)) = true:=decide_eq_true c14;clear c14;by_cases c15 : 0 ≤ x26_2
       ·rw [if_pos c15] at H;have c15b0 : decide (0 ≤ x26_2) = true:=decide_eq_true c15;clear c15;by_cases c16 : x26_2 < (l0.length : Int)
        ·rw [if_pos c16] at H;have c16b0 : decide (x26_2 < (l0.length : Int)) = true:=decide_eq_true c16;clear c16;by_cases c17 : ((rd_T26 l0 x26_2).f1) = a1
         ·rw [if_pos c17] at H;have c17b0 : (((rd_T26 l0 x26_2).f1) == a1) = true:=beq_iff_eq.mpr c17;have c17b1 : (((rd_T26 l0 x26_2).f1) != a1) = false:=bne_eq_false_iff_eq.mpr c17;clear c17;by_cases c18 : ((rd_T26 l0 x26_2).f2) = a2
          ·rw [if_pos c18] at H;have c18b0 : (((rd_T26 l0 x26_2).f2) == a2) = true:=beq_iff_eq.mpr c18;have c18b1 : (((rd_T26 l0 x26_2).f2) != a2) = false:=bne_eq_false_iff_eq.mpr c18;clear c18;by_cases c19 : x8_2.length < 17592186044416
           ·rw [if_pos c19] at H;have LMc19:=Aside0.mk c19;clear c19;obtain ⟨y106,hy106⟩ : ∃ y_ : List Int,y_ = (x8_2 ++ [x26_2]):=⟨_,rfl⟩;replace H : (spec_WhoIs.l0 k2 a1 a2 y106 l0 (l0.length : Int) (wrap64 (x26_2 + 1))) = some (r1,r2):=by first | (rw [hy106];with_reducible exact H) | (have H2_:=(Option.bind_some _ _).symm.trans H;rw [hy106];with_reducible exact H2_) | (have H2_:=(Option.bind_some _ _).symm.trans H;with_reducible exact H2_) | with_reducible exact H | (rw [hy106];exact H) | exact H
            have Ny106:=Aside0.mk hy106;clear hy106;have H' := Aside0.mk H;clear H;have p104 : 0 ≤ (x26_2 : Int):=of_decide_eq_true (q2_);have q104 : x26_2 < (l0.length : Int):=of_decide_eq_true (q2_);obtain ⟨ad104,e104,hx104_0,hx104_1,hx104_2,hx104_3⟩:=at_T26 HR0.out x26_2 p104 q104;cases e104;replace hx104_0:=hB_ HB.out hx104_0;replace hx104_1:=hB_ HB.out hx104_1;replace hx104_2:=hB_ HB.out hx104_2;replace hx104_3:=hB_ HB.out hx104_3;replace p104:=eq_true p104;replace q104:=eq_true q104;go_wp2_with (first | ((with_reducible refine gate_dst (N:=10) rfl ?_);refine box_event ?hg (N:=10) ?hd (cs:=#[.string (⟨#[]⟩ : ByteArray),.int .i64 0,.int .i64 0,.int .i64 0]) (t:=26) ?hr ?_;(case hd=>rfl);(case hg=>rfl);(case hr=>first | (go_simp;done) | (go_simp;rfl));intro gb105 hg w20 hbox hb;replace HO_8:=rB_ HO_8 hb;have BK105:=Aside0.mk (hbox);have GW105:=Aside0.mk ((q64_ : w.heap.size ≤ gb105));have GE105:=Aside0.mk ((q64_ : w.heap.size ≤ gb105));replace HB:=bS_ HB hb;clear hb hbox hg;have hcz21_0 : w20.cell? ⟨gb105,0,none⟩ = some (.string (⟨#[]⟩ : ByteArray)):=(blk_cell BK105.out 0).trans rfl;have hcz21_1 : w20.cell? ⟨gb105,1,none⟩ = some (.int .i64 0):=(blk_cell BK105.out 1).trans rfl;have hcz21_2 : w20.cell? ⟨gb105,2,none⟩ = some (.int .i64 0):=(blk_cell BK105.out 2).trans rfl;have hcz21_3 : w20.cell? ⟨gb105,3,none⟩ = some (.int .i64 0):=(blk_cell BK105.out 3).trans rfl;have hfz21_0:=blk_frozen BK105.out 0;have hal21_0:=MAlive.alive_of hcz21_0;have hfz21_1:=blk_frozen BK105.out 1;have hal21_1:=MAlive.alive_of hcz21_1;have hfz21_2:=blk_frozen BK105.out 2;have hal21_2:=MAlive.alive_of hcz21_2;have hfz21_3:=blk_frozen BK105.out 3;have hal21_3:=MAlive.alive_of hcz21_3) | ((with_reducible refine gate_builtin (b:=.append) (xs:=#[.tmp 41,.tmp 43]) rfl ?_);at_builtin;refine Kd.R_append (Kd.int .i64) (w0:=w) w.heap.size rfl (.tmp 41) (.tmp 43) 34 3 (.int .i64 0) 8 rfl Tryd.underlying34 info3 rfl (by decide) (by omega) u8 x8_2 x26_2 [.int .i64 x26_2] (fun _=>True) (fun _=>False) rfl (by first | (go_simp;done) | (go_simp;rfl)) ?aP (fun _ hk=>hk.elim) ?aF ?aO ?aB ?aS ?aL ?_;(case aP=>exact rfl);(case aB=>exact (by repeat (first | (with_reducible first | exact HB.out | apply below_alloc | apply pw_below_drewN | apply below_drew1 | refine below_set ?_ GE105.out) | exact HB.out)));(case aF=>exact (fun _ _=>trivial));(case aO=>exact (by (with_reducible repeat (first | apply Kd.R_alloc | apply Kd.R_drewN | apply Kd.R_drew));exact Kd.R_mono (Kd.R_far (p:=⟨gb105,3,none⟩) (Kd.R_far (p:=⟨gb105,2,none⟩) (Kd.R_far (p:=⟨gb105,1,none⟩) (Kd.R_far (p:=⟨gb105,0,none⟩) (Kd.R_types HO_8.out BK105.out (by decide)) (fun _ hk=>hk.2) (.string ((rd_T26 l0 x26_2).f0))) (fun _ hk=>hk.2) (.int .i64 ((rd_T26 l0 x26_2).f1))) (fun _ hk=>hk.2) (.int .i64 ((rd_T26 l0 x26_2).f2))) (fun _ hk=>hk.2) (.int .i64 ((rd_T26 l0 x26_2).f3))) (fun _ hk=>trivial)));(case aS=>exact (below_size (by repeat (first | (with_reducible first | exact HB.out | apply below_alloc | apply pw_below_drewN | apply below_drew1 | refine below_set ?_ GE105.out) | exact HB.out))));(case aL=>have:=LMc19.out;omega);intro v107 w22 ho hb hg hat;rw [← Ny106.out] at ho;replace BK105:=Aside0.mk (blk_grown (g:=gb105) (o:=.cells #[.string ((rd_T26 l0 x26_2).f0),.int .i64 ((rd_T26 l0 x26_2).f1),.int .i64 ((rd_T26 l0 x26_2).f2),.int .i64 ((rd_T26 l0 x26_2).f3)] 26 (0,0)) (by (with_reducible repeat (first | refine blk_drewN ?_ _ | refine blk_drew ?_ | refine blk_alloc ?_ _));refine blk_put (cs:=#[.string ((rd_T26 l0 x26_2).f0),.int .i64 ((rd_T26 l0 x26_2).f1),.int .i64 ((rd_T26 l0 x26_2).f2),.int .i64 0]) ?_ 3 _ rfl;(with_reducible repeat (first | refine blk_drewN ?_ _ | refine blk_drew ?_ | refine blk_alloc ?_ _));refine blk_put (cs:=#[.string ((rd_T26 l0 x26_2).f0),.int .i64 ((rd_T26 l0 x26_2).f1),.int .i64 0,.int .i64 0]) ?_ 2 _ rfl;(with_reducible repeat (first | refine blk_drewN ?_ _ | refine blk_drew ?_ | refine blk_alloc ?_ _));refine blk_put (cs:=#[.string ((rd_T26 l0 x26_2).f0),.int .i64 0,.int .i64 0,.int .i64 0]) ?_ 1 _ rfl;(with_reducible repeat (first | refine blk_drewN ?_ _ | refine blk_drew ?_ | refine blk_alloc ?_ _));refine blk_put (cs:=#[.string (⟨#[]⟩ : ByteArray),.int .i64 0,.int .i64 0,.int .i64 0]) ?_ 0 _ rfl;(with_reducible repeat (first | refine blk_drewN ?_ _ | refine blk_drew ?_ | refine blk_alloc ?_ _));exact BK105.out) hg (Kd.R_ne HO_8.out BK105.out (by decide)));replace HB:=Aside0.mk (hb);have HO108:=Aside0.mk (ho);clear HO_8;clear ho hb hg hat))
            go_roundg k2
            case measure=>have:=HJ3.out;have:=HK2.out;omega
            case rel=>exact ⟨(y106),(wrap64 (x26_2 + 1)),(q1_),H', ⟨by have:=HJ3.out;have:=HK2.out;omega⟩,⟨by (with_reducible repeat (first | apply Kd.R_alloc | apply Kd.R_drewN | apply Kd.R_drew));exact HO108.out⟩,⟨by repeat (first | (with_reducible first | exact HB.out | apply below_alloc | apply pw_below_drewN | apply below_drew1 | refine below_set ?_ GE105.out) | exact HB.out)⟩⟩
           ·rw [if_neg c19] at H;exact absurd H (by simp)
          ·rw [if_neg c18] at H;have c18b0 : (((rd_T26 l0 x26_2).f2) == a2) = false:=beq_eq_false_iff_ne.mpr c18;have c18b1 : (((rd_T26 l0 x26_2).f2) != a2) = true:=bne_iff_ne.mpr c18;have H' := Aside0.mk H;clear H;have p104 : 0 ≤ (x26_2 : Int):=of_decide_eq_true (q2_);have q104 : x26_2 < (l0.length : Int):=of_decide_eq_true (q2_);obtain ⟨ad104,e104,hx104_0,hx104_1,hx104_2,hx104_3⟩:=at_T26 HR0.out x26_2 p104 q104;cases e104;replace hx104_0:=hB_ HB.out hx104_0;replace hx104_1:=hB_ HB.out hx104_1;replace hx104_2:=hB_ HB.out hx104_2;replace hx104_3:=hB_ HB.out hx104_3;replace p104:=eq_true p104;replace q104:=eq_true q104;go_wp2_with (first | ((with_reducible refine gate_dst (N:=10) rfl ?_);refine box_event ?hg (N:=10) ?hd (cs:=#[.string (⟨#[]⟩ : ByteArray),.int .i64 0,.int .i64 0,.int .i64 0]) (t:=26) ?hr ?_;(case hd=>rfl);(case hg=>rfl);(case hr=>first | (go_simp;done) | (go_simp;rfl));intro gb105 hg w23 hbox hb;replace HO_8:=rB_ HO_8 hb;have BK105:=Aside0.mk (hbox);have GW105:=Aside0.mk ((q64_ : w.heap.size ≤ gb105));have GE105:=Aside0.mk ((q64_ : w.heap.size ≤ gb105));replace HB:=bS_ HB hb;clear hb hbox hg;have hcz24_0 : w23.cell? ⟨gb105,0,none⟩ = some (.string (⟨#[]⟩ : ByteArray)):=(blk_cell BK105.out 0).trans rfl;have hcz24_1 : w23.cell? ⟨gb105,1,none⟩ = some (.int .i64 0):=(blk_cell BK105.out 1).trans rfl;have hcz24_2 : w23.cell? ⟨gb105,2,none⟩ = some (.int .i64 0):=(blk_cell BK105.out 2).trans rfl;have hcz24_3 : w23.cell? ⟨gb105,3,none⟩ = some (.int .i64 0):=(blk_cell BK105.out 3).trans rfl;have hfz24_0:=blk_frozen BK105.out 0;have hal24_0:=MAlive.alive_of hcz24_0;have hfz24_1:=blk_frozen BK105.out 1;have hal24_1:=MAlive.alive_of hcz24_1;have hfz24_2:=blk_frozen BK105.out 2;have hal24_2:=MAlive.alive_of hcz24_2;have hfz24_3:=blk_frozen BK105.out 3;have hal24_3:=MAlive.alive_of hcz24_3))
           go_roundg k2
           case measure=>have:=HJ3.out;have:=HK2.out;omega
           case rel=>exact ⟨(x8_2),(wrap64 (x26_2 + 1)),(q1_),H', ⟨by have:=HJ3.out;have:=HK2.out;omega⟩,⟨by (with_reducible repeat (first | apply Kd.R_alloc | apply Kd.R_drewN | apply Kd.R_drew));exact Kd.R_mono (Kd.R_far (p:=⟨gb105,3,none⟩) (Kd.R_far (p:=⟨gb105,2,none⟩) (Kd.R_far (p:=⟨gb105,1,none⟩) (Kd.R_far (p:=⟨gb105,0,none⟩) (Kd.R_types HO_8.out BK105.out (by decide)) (fun _ hk=>hk.2) (.string ((rd_T26 l0 x26_2).f0))) (fun _ hk=>hk.2) (.int .i64 ((rd_T26 l0 x26_2).f1))) (fun _ hk=>hk.2) (.int .i64 ((rd_T26 l0 x26_2).f2))) (fun _ hk=>hk.2) (.int .i64 ((rd_T26 l0 x26_2).f3))) (fun _ hk=>trivial)⟩,⟨by repeat (first | (with_reducible first | exact HB.out | apply below_alloc | apply pw_below_drewN | apply below_drew1 | refine below_set ?_ GE105.out) | exact HB.out)⟩⟩
         ·rw [if_neg c17] at H;have c17b0 : (((rd_T26 l0 x26_2).f1) == a1) = false:=beq_eq_false_iff_ne.mpr c17;have c17b1 : (((rd_T26 l0 x26_2).f1) != a1) = true:=bne_iff_ne.mpr c17;have H' := Aside0.mk H;clear H;have p104 : 0 ≤ (x26_2 : Int):=of_decide_eq_true (q2_);have q104 : x26_2 < (l0.length : Int):=of_decide_eq_true (q2_);obtain ⟨ad104,e104,hx104_0,hx104_1,hx104_2,hx104_3⟩:=at_T26 HR0.out x26_2 p104 q104;cases e104;replace hx104_0:=hB_ HB.out hx104_0;replace hx104_1:=hB_ HB.out hx104_1;replace hx104_2:=hB_ HB.out hx104_2;replace hx104_3:=hB_ HB.out hx104_3;replace p104:=eq_true p104;replace q104:=eq_true q104;go_wp2_with (first | ((with_reducible refine gate_dst (N:=10) rfl ?_);refine box_event ?hg (N:=10) ?hd (cs:=#[.string (⟨#[]⟩ : ByteArray),.int .i64 0,.int .i64 0,.int .i64 0]) (t:=26) ?hr ?_;(case hd=>rfl);(case hg=>rfl);(case hr=>first | (go_simp;done) | (go_simp;rfl));intro gb105 hg w25 hbox hb;replace HO_8:=rB_ HO_8 hb;have BK105:=Aside0.mk (hbox);have GW105:=Aside0.mk ((q64_ : w.heap.size ≤ gb105));have GE105:=Aside0.mk ((q64_ : w.heap.size ≤ gb105));replace HB:=bS_ HB hb;clear hb hbox hg;have hcz26_0 : w25.cell? ⟨gb105,0,none⟩ = some (.string (⟨#[]⟩ : ByteArray)):=(blk_cell BK105.out 0).trans rfl;have hcz26_1 : w25.cell? ⟨gb105,1,none⟩ = some (.int .i64 0):=(blk_cell BK105.out 1).trans rfl;have hcz26_2 : w25.cell? ⟨gb105,2,none⟩ = some (.int .i64 0):=(blk_cell BK105.out 2).trans rfl;have hcz26_3 : w25.cell? ⟨gb105,3,none⟩ = some (.int .i64 0):=(blk_cell BK105.out 3).trans rfl;have hfz26_0:=blk_frozen BK105.out 0;have hal26_0:=MAlive.alive_of hcz26_0;have hfz26_1:=blk_frozen BK105.out 1;have hal26_1:=MAlive.alive_of hcz26_1;have hfz26_2:=blk_frozen BK105.out 2;have hal26_2:=MAlive.alive_of hcz26_2;have hfz26_3:=blk_frozen BK105.out 3;have hal26_3:=MAlive.alive_of hcz26_3))
          go_roundg k2
          case measure=>have:=HJ3.out;have:=HK2.out;omega
          case rel=>exact ⟨(x8_2),(wrap64 (x26_2 + 1)),(q1_),H', ⟨by have:=HJ3.out;have:=HK2.out;omega⟩,⟨by (with_reducible repeat (first | apply Kd.R_alloc | apply Kd.R_drewN | apply Kd.R_drew));exact Kd.R_mono (Kd.R_far (p:=⟨gb105,3,none⟩) (Kd.R_far (p:=⟨gb105,2,none⟩) (Kd.R_far (p:=⟨gb105,1,none⟩) (Kd.R_far (p:=⟨gb105,0,none⟩) (Kd.R_types HO_8.out BK105.out (by decide)) (fun _ hk=>hk.2) (.string ((rd_T26 l0 x26_2).f0))) (fun _ hk=>hk.2) (.int .i64 ((rd_T26 l0 x26_2).f1))) (fun _ hk=>hk.2) (.int .i64 ((rd_T26 l0 x26_2).f2))) (fun _ hk=>hk.2) (.int .i64 ((rd_T26 l0 x26_2).f3))) (fun _ hk=>trivial)⟩,⟨by repeat (first | (with_reducible first | exact HB.out | apply below_alloc | apply pw_below_drewN | apply below_drew1 | refine below_set ?_ GE105.out) | exact HB.out)⟩⟩
        ·rw [if_neg c16] at H;exact absurd H (by simp)
       ·rw [if_neg c15] at H;exact absurd H (by simp)
      ·rw [if_neg c14] at H;have c14b0 : decide (x26_2 < (l0.length : Int)) = false:=decide_eq_false c14;clear c14;simp only [Option.some.injEq,Prod.mk.injEq] at H;obtain ⟨rfl,rfl⟩:=H;go_wp2;go_ret2
       exact ⟨_,q4_,by (with_reducible repeat (first | apply Kd.R_alloc | apply Kd.R_drewN | apply Kd.R_drew));exact HO_8.out,q33_⟩
end
end Go.Proofs.YtpdcopbnhaoilaaDoor.G
