-- Written by this session's own program over the kit's print (wip/tools/myprint.py); Lean checks it.
import Derived.Test.YtgapcmmhbegdeaaMBase
import Derived.Test.YtgapcmmhbegdeaaG0
import Derived.Test.YtgapcmmhbegdeaaG6
namespace Go.Proofs.Ytgapcmmhbegdeaa.G
open Go.RowKit Go.Proofs.YtgapcmmhbegdeaaW.PrintWords Go.Proofs.YtgapcmmhbegdeaaW.PrintLast Go.Proofs.YtgapcmmhbegdeaaW.PrintMore
attribute [local go_sem] max2_int min2_int max_two min_two max_three min_three max_four min_four str_geq str_gtr str_leq   -- for this text's walks alone
set_option linter.unusedVariables false
set_option linter.unusedSimpArgs false
/-! ### yA6: function 230 -/
set_option maxHeartbeats 4000000 in
set_option maxRecDepth 100000 in
theorem yA6.with (p : S58 → Bool) (g : Nat) (lb : Array Value) (eg : ∀ args w,(callFunc g args).run Try.prog w = .ok (.enter g args) w) (A0 : Option Addr) (c0 : Nat) (l0 : List S58) (w : World) (hr0 : Kd.C k58 w A0 l0.length l0)
  (hp : ∀ (W : World) (x : S58),Below w.heap.size w W → Calls Try.prog g (#[.agg #[.int .i64 x.f0,.int .i64 x.f1,.string x.f2]] ++ lb) W fun e w' => e = .returned (.bool (p x)) ∧ Below w.heap.size w w') :
  Calls Try.prog 230 #[.slice A0 l0.length c0,.func (.func g) #[] lb] w fun e w' => e = .returned (.int .i64 (idxOf p l0)) ∧ Below w.heap.size w w' := by
 have HR:=Aside0.mk hr0;have HP:=Aside0.mk hp;have HL:=Aside0.mk hr0.2.1;clear hr0 hp;go_enter Try.func230,Try.ntmps230
 go_wp2;go_loopg [5,8] l0.length (fun gg _ s8 wr=>∃ x : Int,s8 = .int .i64 x ∧ Aside0 (0 ≤ x ∧ x ≤ (l0.length : Int) ∧ (l0.length : Int) - x ≤ (gg : Int)) ∧ Aside0 (Below w.heap.size w wr) ∧ Aside0 (∀ j,j < x.toNat → p (l0.getD j z58) = false))
 case atStart=>exact ⟨0,rfl,⟨by omega⟩,⟨Below.refl _ w⟩,⟨fun j hj=>absurd hj (Nat.not_lt_zero _)⟩⟩
 case round =>
  obtain ⟨x,rfl,HX,BW,HA⟩:=hrel;by_cases hlt : x < (l0.length : Int)
  ·have p1 : 0 ≤ x:=HX.out.1;have q1:=hlt;have hw : wrap64 (x + 1) = x + 1:=by have:=HL.out;unfold wrap64;omega
   have HW:=Aside0.mk hw;clear hw;obtain ⟨ad,e,hx0,hx1,hx2⟩:=at_T58 HR.out x p1 q1;cases e;have hcall:=HP.out wr (rd_T58 l0 x) BW.out
   (replace hx0:=(BW.out.cell (World.block_lt_of_cell? w _ hx0)).trans hx0;replace hx1:=(BW.out.cell (World.block_lt_of_cell? w _ hx1)).trans hx1;replace hx2:=(BW.out.cell (World.block_lt_of_cell? w _ hx2)).trans hx2)
   obtain ⟨y,hy⟩ : ∃ y,rd_T58 l0 x = y:=⟨_,rfl⟩;rw [hy] at hx0 hx1 hx2 hcall;have HY:=Aside0.mk hy;clear hy;have HLT:=Aside0.mk hlt;have b1 : decide (x < (l0.length : Int)) = true:=decide_eq_true hlt;clear hlt;replace p1:=eq_true p1;replace q1:=eq_true q1;cases hq : p y with
   | true =>
    rw [hq] at hcall;have HQ:=Aside0.mk hq;clear hq;have HC:=Aside0.mk hcall;clear hcall;go_wp2_with fail
    refine HC.out.mono ?_;clear HC;rintro e w' ⟨rfl,hb'⟩;have HB' := Aside0.mk hb';clear hb';go_wp2;go_ret;exact ⟨by rw [idxOf_hit z58 (i:=x.toNat) (by have:=HX.out;have:=HLT.out;omega) (by show p (rd_T58 l0 x) = true;rw [HY.out];exact HQ.out) HA.out,Int.toNat_of_nonneg HX.out.1];rfl,HB'.out⟩
   | false =>
    rw [hq] at hcall;have HQ:=Aside0.mk hq;clear hq;have HC:=Aside0.mk hcall;clear hcall;go_wp2_with fail
    refine HC.out.mono ?_;clear HC;rintro e w' ⟨rfl,hb'⟩;have HB' := Aside0.mk hb';clear hb';go_wp2;go_roundg (l0.length - (x.toNat + 1))
    case measure=>have:=HX.out;have:=HLT.out;omega
    case rel =>
     refine ⟨x + 1,by first | rfl | (rw [HW.out]) | (simp [HW.out]),⟨by have:=HX.out;have:=HLT.out;omega⟩,⟨HB'.out⟩,⟨fun j hj=>?_⟩⟩;by_cases e : j = x.toNat
     ·subst e;show p (rd_T58 l0 x) = false;rw [HY.out];exact HQ.out
     ·exact HA.out j (by have:=HX.out;omega)
  ·have b1 : decide (x < (l0.length : Int)) = false:=decide_eq_false hlt;have HLT:=Aside0.mk hlt;clear hlt;go_wp2;go_ret;exact ⟨by rw [idxOf_miss z58 (fun j hj=>HA.out j (by have:=HX.out;have:=HLT.out;omega))];rfl,BW.out⟩
/-! ### yAa: function 150 -/
def yAa.p (a1 : Int) (x : S58) : Bool:=decide (x.f0 ≤ a1 ∧ a1 ≤ wrap64 (x.f1 - 1))
def yAa.f (l0 : List S58) (a1 : Int) : Option (Int):=some (idxOf (yAa.p a1) l0)
theorem yAa.test (a1 : Int) (x : S58) : yAd.f a1 x.f0 (wrap64 (x.f1 - 1)) = some (yAa.p a1 x):=by
 unfold yAd.f yAa.p;by_cases h : a1 ≥ x.f0
 ·rw [if_pos h];simp [show x.f0 ≤ a1 from h]
 ·rw [if_neg h];simp [show ¬ x.f0 ≤ a1 from h]
set_option maxHeartbeats 4000000 in
set_option maxRecDepth 100000 in
theorem yAa.pred (a1 : Int) (B : Nat) (w : World) (hB : B < w.heap.size) (hcell : w.cell? ⟨B,0,none⟩ = some (.int .i64 a1)) (W : World) (x : S58) (hb : Below w.heap.size w W) :
  Calls Try.prog 231 (#[.agg #[.int .i64 x.f0,.int .i64 x.f1,.string x.f2]] ++ #[.pointer (some ⟨B,0,none⟩)]) W fun e w' => e = .returned (.bool (yAa.p a1 x)) ∧ Below w.heap.size w w' := by
 have hc : W.cell? ⟨B,0,none⟩ = some (.int .i64 a1):=(hb.cell (p:=⟨B,0,none⟩) hB).trans hcell;have hBW : B < W.heap.size:=Nat.lt_of_lt_of_le hB hb.size;have hne : B ≠ W.heap.size:=by omega
 have HT:=yAa.test a1 x;have HB:=Aside0.mk hb;clear hcell hb hB;generalize yAa.p a1 x = q at HT ⊢;have HT' := Aside0.mk HT;clear HT;show Calls Try.prog 231 #[.agg #[.int .i64 x.f0,.int .i64 x.f1,.string x.f2],.pointer (some ⟨B,0,none⟩)] W _;go_enter Try.func231,Try.ntmps231
 go_wp2_with (go_at_call 132;refine (yAd.calls _ _ _ _ _ HT'.out).mono ?_;rintro e w' ⟨rfl,⟨nd,rfl⟩⟩)
 go_ret;exact ⟨rfl,pw_below_drewN (HB.out.alloc HB.out.size _) _⟩
set_option maxHeartbeats 4000000 in
set_option maxRecDepth 100000 in
theorem yAa.calls (A0 : Option Addr) (c0 : Nat) (l0 : List S58) (a1 : Int) (r : Int) (w : World) (hr0 : Kd.C k58 w A0 l0.length l0) (hc0 : l0.length ≤ c0) (h : yAa.f l0 a1 = some r) :
  Calls Try.prog 150 #[.slice A0 l0.length c0,.int .i64 a1] w fun e w' => e = .returned (.int .i64 r) ∧ Below w.heap.size w w' := by
 obtain rfl:=Option.some.inj h;clear h;have eg : ∀ args w,(callFunc 231 args).run Try.prog w = .ok (.enter 231 args) w:=goes_in Try.func231 (by kernel_rfl) rfl
 have HC:=Aside0.mk (yA6.with (yAa.p a1) 231 #[.pointer (some ⟨w.heap.size,0,none⟩)] eg A0 c0 l0 (w.alloc (.cells #[.int .i64 a1] 3)) (Kd.C_below hr0 ((Below.refl _ w).alloc (Nat.le_refl _) _))
  (fun W x hb=>yAa.pred a1 w.heap.size (w.alloc (.cells #[.int .i64 a1] 3)) (by simp) (by simp) W x hb))
 clear hr0 hc0 eg;generalize idxOf (yAa.p a1) l0 = q at HC ⊢;go_enter Try.func150,Try.ntmps150
 go_wp2_with fail
 refine HC.out.mono ?_;clear HC;rintro e w' ⟨rfl,hb'⟩;have HB' := Aside0.mk hb';clear hb';go_wp2;go_ret;exact ⟨rfl,((Below.refl _ w).alloc (Nat.le_refl _) _).trans (HB'.out.mono (by simp))⟩
end Go.Proofs.Ytgapcmmhbegdeaa.G
