-- Written by this session's own program over the kit's print (wip/tools/myprint.py); Lean checks it.
import Derived.Test.YtgapcmmhbegdeaaMBase
import Derived.Test.YtgapcmmhbegdeaaG0
import Derived.Test.YtgapcmmhbegdeaaG1
import Derived.Test.YtgapcmmhbegdeaaG4
import Derived.Test.YtgapcmmhbegdeaaG8
namespace Go.Proofs.Ytgapcmmhbegdeaa.G
open Go.RowKit Go.Proofs.YtgapcmmhbegdeaaW.PrintWords Go.Proofs.YtgapcmmhbegdeaaW.PrintLast Go.Proofs.YtgapcmmhbegdeaaW.PrintMore
attribute [local go_sem] max2_int min2_int max_two min_two max_three min_three max_four min_four str_geq str_gtr str_leq   -- for this text's walks alone
set_option linter.unusedVariables false
set_option linter.unusedSimpArgs false
/-! ### spec_agTiers: function 112 -/
def spec_agTiers.l0 : Nat → List (List (S58)) → List (List (S58)) → Int → Int → Option (Bool)
 | 0,_,_,_,_=>none
 | k + 1,x0,x5,x6,x7=>if x7 < x6 then (if 0 ≤ x7 then (if x7 < (x5.length : Int) then ((spec_tiGood.f k (rd_L13 x5 x7)).bind fun t102=>(if t102 = true then (spec_agTiers.l0 k x0 x5 x6 (wrap64 (x7 + 1))) else (some false))) else (none)) else (none)) else ((spec_l1In.f (x0.length : Int) 1 5).bind fun t103=>(some t103))
def spec_agTiers.f (k : Nat) (l0 : List (List (S58))) : Option (Bool):=spec_agTiers.l0 k l0 l0 (l0.length : Int) 0
set_option maxHeartbeats 8000000 in
set_option maxRecDepth 100000 in
theorem spec_agTiers.calls (k : Nat) (A0 : Option Addr) (c0 : Nat) (l0 : List (List (S58))) (r : Bool) (w : World) (hr0 : Kd.C (Kd.slice 58 k58) w A0 l0.length l0) (hc0 : l0.length ≤ c0) (h : spec_agTiers.f k l0 = some r) :
  Calls Try.prog 112 #[.slice A0 l0.length c0] w fun e w' => e = .returned (.bool r) ∧ Below w.heap.size w w' := by
 have HR0:=Aside0.mk hr0;have HC0:=Aside0.mk hc0;clear hr0 hc0;have HB:=Aside0.mk (Below.refl w.heap.size w);have H : (spec_agTiers.l0 k l0 l0 (l0.length : Int) 0) = some r:=h;clear h;have H' := Aside0.mk H;clear H;go_enter Try.func112,Try.ntmps112
 go_wp2;go_loopg [7] k (fun kq v7 w' => ∃ (x7_1 : Int),v7 = .int .i64 x7_1 ∧ Aside0 (spec_agTiers.l0 kq l0 l0 (l0.length : Int) x7_1 = some r) ∧ Aside0 (kq ≤ k) ∧ Aside0 (Below w.heap.size w w'))
 case atStart=>exact ⟨(0),(q1_),H', ⟨Nat.le_refl _⟩,⟨q9_⟩⟩
 case round =>
  clear H';obtain ⟨x7_1,rfl,HA,HK1,HB⟩:=hrel;cases gk with
  | zero=>exact absurd HA.out (by simp [spec_agTiers.l0])
  | succ k1 =>
   have H:=HA.out;clear HA;simp only [spec_agTiers.l0] at H;by_cases c2 : x7_1 < (l0.length : Int)
   ·rw [if_pos c2] at H;have c2b0 : decide (x7_1 < (l0.length : Int)) = true:=decide_eq_true c2;clear c2;by_cases c3 : 0 ≤ x7_1
    ·rw [if_pos c3] at H;have c3b0 : decide (0 ≤ x7_1) = true:=decide_eq_true c3;clear c3;by_cases c4 : x7_1 < (l0.length : Int)
     ·rw [if_pos c4] at H;have c4b0 : decide (x7_1 < (l0.length : Int)) = true:=decide_eq_true c4;clear c4;replace H:=Option.bind_eq_some_iff.mp H;obtain ⟨t102,A50,H⟩:=H;replace H : (if t102 = true then (spec_agTiers.l0 k1 l0 l0 (l0.length : Int) (wrap64 (x7_1 + 1))) else (some false)) = some r:=H;have A5:=Aside0.mk A50;clear A50;by_cases c6 : t102 = true
      ·subst c6;have H1 : (spec_agTiers.l0 k1 l0 l0 (l0.length : Int) (wrap64 (x7_1 + 1))) = some r:=by rw [if_pos rfl] at H;exact H
       clear H;have H:=H1;clear H1;have H' := Aside0.mk H;clear H;have p101 : 0 ≤ (x7_1 : Int):=of_decide_eq_true (q2_);have q101 : x7_1 < (l0.length : Int):=of_decide_eq_true (q2_);obtain ⟨ad101,A101_0,c101_0,e101,hx101_0,hl101_0,hi101_0⟩:=at_L13 HR0.out x7_1 p101 q101;cases e101;replace hx101_0:=(HB.out.cell (World.block_lt_of_cell? w _ hx101_0)).trans hx101_0;have HR101_0:=Aside0.mk hi101_0;have HC101_0:=Aside0.mk hl101_0;clear hi101_0 hl101_0;replace p101:=eq_true p101;replace q101:=eq_true q101;go_wp2_with (first | ((with_reducible refine gate_callee (f:=119) rfl ?_);refine goesL_ (some 12) rfl rfl Try.func119 (by kernel_rfl) rfl #[.slice A101_0 (rd_L13 l0 x7_1).length c101_0] rfl (q10_) ?_;(with_reducible refine (spec_tiGood.calls k1 _ _ (rd_L13 l0 x7_1) true _ ?side1 ?side2 A5.out).mono ?_);(case side1=>repeat (first | exact (Kd.C_below HR101_0.out HB.out) | (with_reducible refine Kd.C_alloc ?_ _) | (with_reducible refine Kd.C_drewN ?_ _) | (with_reducible refine Kd.C_drew ?_)));(case side2=>exact HC101_0.out);rintro e w7 ⟨rfl,hb⟩;refine ⟨_,rfl,?_⟩;have n0_:=Aside0.mk (below_step (q9_) hb);clear HB;have HB:=n0_;clear n0_;(try clear hb);(try clear hb2);(try clear hk);(try clear hi)))
       go_roundg k1
       case measure=>have:=HK1.out;omega
       case rel=>exact ⟨(wrap64 (x7_1 + 1)),(q1_),H', ⟨by have:=HK1.out;omega⟩,⟨q9_⟩⟩
      ·replace c6:=Bool.eq_false_iff.mpr c6;subst c6;have H1 : (some false) = some r:=by rw [if_neg (show ¬ (false = true) by decide)] at H;exact H
       clear H;have H:=H1;clear H1;obtain rfl:=Option.some.inj H;have p101 : 0 ≤ (x7_1 : Int):=of_decide_eq_true (q2_);have q101 : x7_1 < (l0.length : Int):=of_decide_eq_true (q2_);obtain ⟨ad101,A101_0,c101_0,e101,hx101_0,hl101_0,hi101_0⟩:=at_L13 HR0.out x7_1 p101 q101;cases e101;replace hx101_0:=(HB.out.cell (World.block_lt_of_cell? w _ hx101_0)).trans hx101_0;have HR101_0:=Aside0.mk hi101_0;have HC101_0:=Aside0.mk hl101_0;clear hi101_0 hl101_0;replace p101:=eq_true p101;replace q101:=eq_true q101;go_wp2_with (first | ((with_reducible refine gate_callee (f:=119) rfl ?_);refine goesL_ (some 12) rfl rfl Try.func119 (by kernel_rfl) rfl #[.slice A101_0 (rd_L13 l0 x7_1).length c101_0] rfl (q10_) ?_;(with_reducible refine (spec_tiGood.calls k1 _ _ (rd_L13 l0 x7_1) false _ ?side1 ?side2 A5.out).mono ?_);(case side1=>repeat (first | exact (Kd.C_below HR101_0.out HB.out) | (with_reducible refine Kd.C_alloc ?_ _) | (with_reducible refine Kd.C_drewN ?_ _) | (with_reducible refine Kd.C_drew ?_)));(case side2=>exact HC101_0.out);rintro e w8 ⟨rfl,hb⟩;refine ⟨_,rfl,?_⟩;have n0_:=Aside0.mk (below_step (q9_) hb);clear HB;have HB:=n0_;clear n0_;(try clear hb);(try clear hb2);(try clear hk);(try clear hi)))
       go_ret;exact ⟨q4_,q9_⟩
     ·rw [if_neg c4] at H;exact absurd H (by simp)
    ·rw [if_neg c3] at H;exact absurd H (by simp)
   ·rw [if_neg c2] at H;have c2b0 : decide (x7_1 < (l0.length : Int)) = false:=decide_eq_false c2;clear c2;replace H:=Option.bind_eq_some_iff.mp H;obtain ⟨t103,A90,H⟩:=H;replace H : (some t103) = some r:=H;have A9:=Aside0.mk A90;clear A90;obtain rfl:=Option.some.inj H;go_wp2_with (first | ((with_reducible refine gate_callee (f:=146) rfl ?_);refine goesL_ (some 17) rfl rfl Try.func146 (by kernel_rfl) rfl #[.int .i64 (l0.length : Int),.int .i64 1,.int .i64 5] rfl (q10_) ?_;(with_reducible refine (spec_l1In.calls (l0.length : Int) 1 5 t103 _ A9.out).mono ?_);rintro e w' ⟨rfl,⟨nd,rfl⟩⟩;refine ⟨_,rfl,?_⟩))
    go_ret;exact ⟨q4_,q9_⟩
/-! ### slices_IndexFunc_Note_267: function 267 -/
set_option maxHeartbeats 4000000 in
set_option maxRecDepth 100000 in
theorem slices_IndexFunc_Note_267.with (p : List (S58) → Bool) (g : Nat) (lb : Array Value) (eg : ∀ args w,(callFunc g args).run Try.prog w = .ok (.enter g args) w) (A0 : Option Addr) (c0 : Nat) (l0 : List (List (S58))) (w : World) (hr0 : Kd.C ((Kd.slice 58 k58)) w A0 l0.length l0)
  (hp : ∀ (W : World) (A : Option Addr) (c : Nat) (x : List (S58)),x ∈ l0 → Below w.heap.size w W → Kd.C (k58) W A x.length x → x.length ≤ c → Calls Try.prog g (#[.slice A x.length c] ++ lb) W fun e w' => e = .returned (.bool (p x)) ∧ Below w.heap.size w w') :
  Calls Try.prog 267 #[.slice A0 l0.length c0,.func (.func g) #[] lb] w fun e w' => e = .returned (.int .i64 (idxOf p l0)) ∧ Below w.heap.size w w' := by
 have HR:=Aside0.mk hr0;have HP:=Aside0.mk hp;have HL:=Aside0.mk hr0.2.1;clear hr0 hp;go_enter Try.func267,Try.ntmps267
 go_wp2;go_loopg [5,8] l0.length (fun gg _ s8 wr=>∃ x : Int,s8 = .int .i64 x ∧ Aside0 (0 ≤ x ∧ x ≤ (l0.length : Int) ∧ (l0.length : Int) - x ≤ (gg : Int)) ∧ Aside0 (Below w.heap.size w wr) ∧ Aside0 (∀ j,j < x.toNat → p (l0.getD j []) = false))
 case atStart=>exact ⟨0,rfl,⟨by omega⟩,⟨Below.refl _ w⟩,⟨fun j hj=>absurd hj (Nat.not_lt_zero _)⟩⟩
 case round =>
  obtain ⟨x,rfl,HX,BW,HA⟩:=hrel;by_cases hlt : x < (l0.length : Int)
  ·have p1 : 0 ≤ x:=HX.out.1;have q1:=hlt;have hw : wrap64 (x + 1) = x + 1:=by have:=HL.out;unfold wrap64;omega
   have HW:=Aside0.mk hw;clear hw;obtain ⟨ad,Ai,ci,e,hx0,hl0,hi0⟩:=at_L13 HR.out x p1 q1;cases e
   have hmem : rd_L13 l0 x ∈ l0:=by
    show l0.getD x.toNat [] ∈ l0;rw [List.getD_eq_getElem?_getD,List.getElem?_eq_getElem (show x.toNat < l0.length by omega)];exact List.getElem_mem _
   have hcall:=HP.out wr Ai ci (rd_L13 l0 x) hmem BW.out (Kd.C_below hi0 BW.out) hl0;replace hx0:=(BW.out.cell (World.block_lt_of_cell? w _ hx0)).trans hx0;clear hmem hi0 hl0;obtain ⟨y,hy⟩ : ∃ y,rd_L13 l0 x = y:=⟨_,rfl⟩;rw [hy] at hx0 hcall;have HY:=Aside0.mk hy;clear hy;have HLT:=Aside0.mk hlt;have b1 : decide (x < (l0.length : Int)) = true:=decide_eq_true hlt;clear hlt;replace p1:=eq_true p1;replace q1:=eq_true q1;cases hq : p y with
   | true =>
    rw [hq] at hcall;have HQ:=Aside0.mk hq;clear hq;have HC:=Aside0.mk hcall;clear hcall;go_wp2_with fail
    refine HC.out.mono ?_;clear HC;rintro e w' ⟨rfl,hb'⟩;have HB' := Aside0.mk hb';clear hb';go_wp2;go_ret;exact ⟨by rw [idxOf_hit [] (i:=x.toNat) (by have:=HX.out;have:=HLT.out;omega) (by show p (rd_L13 l0 x) = true;rw [HY.out];exact HQ.out) HA.out,Int.toNat_of_nonneg HX.out.1];rfl,HB'.out⟩
   | false =>
    rw [hq] at hcall;have HQ:=Aside0.mk hq;clear hq;have HC:=Aside0.mk hcall;clear hcall;go_wp2_with fail
    refine HC.out.mono ?_;clear HC;rintro e w' ⟨rfl,hb'⟩;have HB' := Aside0.mk hb';clear hb';go_wp2;go_roundg (l0.length - (x.toNat + 1))
    case measure=>have:=HX.out;have:=HLT.out;omega
    case rel =>
     refine ⟨x + 1,by first | rfl | (rw [HW.out]) | (simp [HW.out]),⟨by have:=HX.out;have:=HLT.out;omega⟩,⟨HB'.out⟩,⟨fun j hj=>?_⟩⟩;by_cases e : j = x.toNat
     ·subst e;show p (rd_L13 l0 x) = false;rw [HY.out];exact HQ.out
     ·exact HA.out j (by have:=HX.out;omega)
  ·have b1 : decide (x < (l0.length : Int)) = false:=decide_eq_false hlt;have HLT:=Aside0.mk hlt;clear hlt;go_wp2;go_ret;exact ⟨by rw [idxOf_miss [] (fun j hj=>HA.out j (by have:=HX.out;have:=HLT.out;omega))];rfl,BW.out⟩
/-! ### slices_ContainsFunc_Note_255: function 255 -/
set_option maxHeartbeats 4000000 in
set_option maxRecDepth 100000 in
theorem slices_ContainsFunc_Note_255.with (p : List (S58) → Bool) (g : Nat) (lb : Array Value) (eg : ∀ args w,(callFunc g args).run Try.prog w = .ok (.enter g args) w) (A0 : Option Addr) (c0 : Nat) (l0 : List (List (S58))) (w : World) (hr0 : Kd.C ((Kd.slice 58 k58)) w A0 l0.length l0)
  (hp : ∀ (W : World) (A : Option Addr) (c : Nat) (x : List (S58)),x ∈ l0 → Below w.heap.size w W → Kd.C (k58) W A x.length x → x.length ≤ c → Calls Try.prog g (#[.slice A x.length c] ++ lb) W fun e w' => e = .returned (.bool (p x)) ∧ Below w.heap.size w w') :
  Calls Try.prog 255 #[.slice A0 l0.length c0,.func (.func g) #[] lb] w fun e w' => e = .returned (.bool (l0.any p)) ∧ Below w.heap.size w w' := by
 have HC:=Aside0.mk (slices_IndexFunc_Note_267.with p g lb eg A0 c0 l0 w hr0 hp);have HE:=Aside0.mk (MFun.idxOf_any p l0);clear hr0 hp eg;generalize l0.any p = q at HE ⊢;generalize idxOf p l0 = z at HC HE;go_enter Try.func255,Try.ntmps255
 go_wp2_with fail
 refine HC.out.mono ?_;clear HC;rintro e w' ⟨rfl,hb⟩;have HB:=Aside0.mk hb;clear hb;go_wp2;go_ret;exact ⟨by rw [← HE.out];rfl,HB.out⟩
/-! ### impl_areTiers: function 115 -/
def impl_areTiers.all (k : Nat) : List (List (S58)) → Option Bool
 | []=>some true
 | x :: l=>(impl_IsTier.f k x).bind fun t=>(impl_areTiers.all k l).bind fun u=>some (t && u)
def impl_areTiers.bad (k : Nat) (x : List (S58)) : Bool:=!(impl_IsTier.f k x == some true)
theorem impl_areTiers.all_open (k : Nat) : ∀ (l : List (List (S58))) (b : Bool),impl_areTiers.all k l = some b → (∀ x,x ∈ l → ∃ t,impl_IsTier.f k x = some t) ∧ b = !l.any (impl_areTiers.bad k)
 | [],b,h=>⟨fun _ hx=>(nomatch hx),by have:=Option.some.inj h;rw [← this];rfl⟩
 | x :: l,b,h=>by
  obtain ⟨t,ht,h⟩:=Option.bind_eq_some_iff.mp h;obtain ⟨u,hu,h⟩:=Option.bind_eq_some_iff.mp h;obtain rfl:=Option.some.inj h;obtain ⟨h1,h2⟩:=impl_areTiers.all_open k l u hu;refine ⟨fun z hz=>?_,?_⟩
  ·rcases List.mem_cons.1 hz with rfl | hz
   ·exact ⟨t,ht⟩
   ·exact h1 z hz
  ·rw [List.any_cons,h2];unfold impl_areTiers.bad;rw [ht];cases t <;> simp
def impl_areTiers.f (k : Nat) (l0 : List (List (S58))) : Option Bool:=(impl_within.f (l0.length : Int) 1 5).bind fun t=>if t = true then impl_areTiers.all k l0 else some false
set_option maxHeartbeats 4000000 in
set_option maxRecDepth 100000 in
theorem impl_areTiers.pred (k : Nat) (A : Option Addr) (c : Nat) (x : List (S58)) (B : Nat) (W : World) (hr : Kd.C (k58) W A x.length x) (hc : x.length ≤ c) (hb0 : W.cell? ⟨B,0,none⟩ = some (.func (.func 46) #[] #[])) (t : Bool) (ht : impl_IsTier.f k x = some t) :
  Calls Try.prog 256 (#[.slice A x.length c] ++ #[.pointer (some ⟨B,0,none⟩)]) W fun e w' => e = .returned (.bool (!t)) ∧ Below W.heap.size W w' := by
 have eg : ∀ args w,(callFunc 46 args).run Try.prog w = .ok (.enter 46 args) w:=goes_in Try.func46 (by kernel_rfl) rfl;have HC:=Aside0.mk (impl_IsTier.calls k A c x t W hr hc ht);clear hr hc ht;show Calls Try.prog 256 #[.slice A x.length c,.pointer (some ⟨B,0,none⟩)] W _;go_enter Try.func256,Try.ntmps256
 go_wp2_with fail
 refine HC.out.mono ?_;rintro e w' ⟨rfl,hb⟩;have HB:=Aside0.mk hb;clear hb HC;go_wp2;go_ret;exact ⟨rfl,HB.out⟩
set_option maxHeartbeats 4000000 in
set_option maxRecDepth 100000 in
theorem impl_areTiers.allOf (k : Nat) (A0 : Option Addr) (c0 : Nat) (l0 : List (List (S58))) (b : Bool) (w : World) (hr0 : Kd.C ((Kd.slice 58 k58)) w A0 l0.length l0) (h : impl_areTiers.all k l0 = some b) :
  Calls Try.prog 212 #[.slice A0 l0.length c0,.func (.func 46) #[] #[]] w fun e w' => e = .returned (.bool b) ∧ Below w.heap.size w w' := by
 obtain ⟨h1,rfl⟩:=impl_areTiers.all_open k l0 b h;clear h;have eg : ∀ args w,(callFunc 256 args).run Try.prog w = .ok (.enter 256 args) w:=goes_in Try.func256 (by kernel_rfl) rfl;obtain ⟨w1,hw1⟩ : ∃ w1,w1 = w.alloc (.cells #[.func (.func 46) #[] #[]] 56):=⟨_,rfl⟩;have HW:=Aside0.mk (show Below w.heap.size w w1 by rw [hw1];exact (Below.refl _ w).alloc (Nat.le_refl _) _);have hsz : w.heap.size < w1.heap.size:=by rw [hw1];simp
 have hca : w1.cell? ⟨w.heap.size,0,none⟩ = some (.func (.func 46) #[] #[]):=by rw [hw1];simp
 have HC:=Aside0.mk (slices_ContainsFunc_Note_255.with (impl_areTiers.bad k) 256 #[.pointer (some ⟨w.heap.size,0,none⟩)] eg A0 c0 l0 w1 (Kd.C_below hr0 HW.out) (fun W A c x hx hb hr hc=>by
  obtain ⟨t,ht⟩:=h1 x hx;have e : impl_areTiers.bad k x = !t:=by unfold impl_areTiers.bad;rw [ht];cases t <;> rfl
  rw [e];exact (impl_areTiers.pred k A c x w.heap.size W hr hc ((hb.cell (p:=⟨w.heap.size,0,none⟩) hsz).trans hca) t ht).mono (fun e w' hh=>⟨hh.1,hb.trans (hh.2.mono hb.size)⟩)))
 clear hr0 h1 eg hca;generalize l0.any (impl_areTiers.bad k) = q at HC ⊢;go_enter Try.func212,Try.ntmps212
 go_wp2_with fail
 rw [← hw1];refine HC.out.mono ?_;rintro e w' ⟨rfl,hb⟩;have HB:=Aside0.mk (HW.out.trans (hb.mono (Nat.le_of_lt hsz)));clear hb HC hw1 hsz;go_wp2;go_ret;exact ⟨rfl,HB.out⟩
set_option maxHeartbeats 4000000 in
set_option maxRecDepth 100000 in
theorem impl_areTiers.calls (k : Nat) (A0 : Option Addr) (c0 : Nat) (l0 : List (List (S58))) (r : Bool) (w : World) (hr0 : Kd.C ((Kd.slice 58 k58)) w A0 l0.length l0) (hc0 : l0.length ≤ c0) (h : impl_areTiers.f k l0 = some r) :
  Calls Try.prog 115 #[.slice A0 l0.length c0] w fun e w' => e = .returned (.bool r) ∧ Below w.heap.size w w' := by
 obtain ⟨t,ht,h⟩:=Option.bind_eq_some_iff.mp h;have HT:=Aside0.mk ht;have HR:=Aside0.mk hr0;have HB:=Aside0.mk (Below.refl w.heap.size w);clear ht hr0 hc0;go_enter Try.func115,Try.ntmps115
 go_wp2_with fail
 refine (impl_within.calls _ _ _ t _ HT.out).mono ?_;rintro e wa ⟨rfl,hd⟩;have HB1:=Aside0.mk (below_step HB.out hd.below);clear hd HB HT;cases t with
 | false =>
  simp only [Bool.false_eq_true,if_false,Option.some.injEq] at h;subst h;go_wp2;go_ret;exact ⟨rfl,HB1.out⟩
 | true =>
  simp only [if_true] at h;have HA:=Aside0.mk (fun (W : World) (hb : Below w.heap.size w W)=>impl_areTiers.allOf k A0 c0 l0 r W (Kd.C_below HR.out hb) h);clear h;go_wp2_with fail
  refine (HA.out _ HB1.out).mono ?_;rintro e wb ⟨rfl,hb⟩;have HB2:=Aside0.mk (below_step HB1.out hb);clear hb HA HB1;go_wp2;go_ret;exact ⟨rfl,HB2.out⟩
end Go.Proofs.Ytgapcmmhbegdeaa.G
