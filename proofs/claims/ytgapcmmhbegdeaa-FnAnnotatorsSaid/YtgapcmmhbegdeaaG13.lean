-- Written by this session's own program over the kit's print (wip/tools/myprint.py); Lean checks it.
import Derived.Test.YtgapcmmhbegdeaaMBase
import Derived.Test.YtgapcmmhbegdeaaG0
import Derived.Test.YtgapcmmhbegdeaaG3
import Derived.Test.YtgapcmmhbegdeaaG6
import Derived.Test.YtgapcmmhbegdeaaG7
import Derived.Test.YtgapcmmhbegdeaaG12
namespace Go.Proofs.Ytgapcmmhbegdeaa.G
open Go.RowKit Go.Proofs.YtgapcmmhbegdeaaW.PrintWords Go.Proofs.YtgapcmmhbegdeaaW.PrintLast Go.Proofs.YtgapcmmhbegdeaaW.PrintMore
attribute [local go_sem] max2_int min2_int max_two min_two max_three min_three max_four min_four str_geq str_gtr str_leq   -- for this text's walks alone
set_option linter.unusedVariables false
set_option linter.unusedSimpArgs false
/-! ### yA4: function 255 -/
set_option maxHeartbeats 4000000 in
set_option maxRecDepth 100000 in
theorem yA4.with (p : List (S58) → Bool) (g : Nat) (lb : Array Value) (eg : ∀ args w,(callFunc g args).run Try.prog w = .ok (.enter g args) w) (A0 : Option Addr) (c0 : Nat) (l0 : List (List (S58))) (w : World) (hr0 : Kd.C ((Kd.slice 58 k58)) w A0 l0.length l0)
  (hp : ∀ (W : World) (A : Option Addr) (c : Nat) (x : List (S58)),x ∈ l0 → Below w.heap.size w W → Kd.C (k58) W A x.length x → x.length ≤ c → Calls Try.prog g (#[.slice A x.length c] ++ lb) W fun e w' => e = .returned (.bool (p x)) ∧ Below w.heap.size w w') :
  Calls Try.prog 255 #[.slice A0 l0.length c0,.func (.func g) #[] lb] w fun e w' => e = .returned (.bool (l0.any p)) ∧ Below w.heap.size w w' := by
 have HC:=Aside0.mk (yA5.with p g lb eg A0 c0 l0 w hr0 hp);have HE:=Aside0.mk (MFun.idxOf_any p l0);clear hr0 hp eg;generalize l0.any p = q at HE ⊢;generalize idxOf p l0 = z at HC HE;go_enter Try.func255,Try.ntmps255
 go_wp2_with fail
 refine HC.out.mono ?_;clear HC;rintro e w' ⟨rfl,hb⟩;have HB:=Aside0.mk hb;clear hb;go_wp2;go_ret;exact ⟨by rw [← HE.out];rfl,HB.out⟩
/-! ### yAN: function 115 -/
def yAN.all (k : Nat) : List (List (S58)) → Option Bool
 | []=>some true
 | x :: l=>(yAJ.f k x).bind fun t=>(yAN.all k l).bind fun u=>some (t && u)
def yAN.bad (k : Nat) (x : List (S58)) : Bool:=!(yAJ.f k x == some true)
theorem yAN.all_open (k : Nat) : ∀ (l : List (List (S58))) (b : Bool),yAN.all k l = some b → (∀ x,x ∈ l → ∃ t,yAJ.f k x = some t) ∧ b = !l.any (yAN.bad k)
 | [],b,h=>⟨fun _ hx=>(nomatch hx),by have:=Option.some.inj h;rw [← this];rfl⟩
 | x :: l,b,h=>by
  obtain ⟨t,ht,h⟩:=Option.bind_eq_some_iff.mp h;obtain ⟨u,hu,h⟩:=Option.bind_eq_some_iff.mp h;obtain rfl:=Option.some.inj h;obtain ⟨h1,h2⟩:=yAN.all_open k l u hu;refine ⟨fun z hz=>?_,?_⟩
  ·rcases List.mem_cons.1 hz with rfl | hz
   ·exact ⟨t,ht⟩
   ·exact h1 z hz
  ·rw [List.any_cons,h2];unfold yAN.bad;rw [ht];cases t <;> simp
def yAN.f (k : Nat) (l0 : List (List (S58))) : Option Bool:=(yAd.f (l0.length : Int) 1 5).bind fun t=>if t = true then yAN.all k l0 else some false
set_option maxHeartbeats 4000000 in
set_option maxRecDepth 100000 in
theorem yAN.pred (k : Nat) (A : Option Addr) (c : Nat) (x : List (S58)) (B : Nat) (W : World) (hr : Kd.C (k58) W A x.length x) (hc : x.length ≤ c) (hb0 : W.cell? ⟨B,0,none⟩ = some (.func (.func 46) #[] #[])) (t : Bool) (ht : yAJ.f k x = some t) :
  Calls Try.prog 256 (#[.slice A x.length c] ++ #[.pointer (some ⟨B,0,none⟩)]) W fun e w' => e = .returned (.bool (!t)) ∧ Below W.heap.size W w' := by
 have eg : ∀ args w,(callFunc 46 args).run Try.prog w = .ok (.enter 46 args) w:=goes_in Try.func46 (by kernel_rfl) rfl;have HC:=Aside0.mk (yAJ.calls k A c x t W hr hc ht);clear hr hc ht;show Calls Try.prog 256 #[.slice A x.length c,.pointer (some ⟨B,0,none⟩)] W _;go_enter Try.func256,Try.ntmps256
 go_wp2_with fail
 refine HC.out.mono ?_;rintro e w' ⟨rfl,hb⟩;have HB:=Aside0.mk hb;clear hb HC;go_wp2;go_ret;exact ⟨rfl,HB.out⟩
set_option maxHeartbeats 4000000 in
set_option maxRecDepth 100000 in
theorem yAN.allOf (k : Nat) (A0 : Option Addr) (c0 : Nat) (l0 : List (List (S58))) (b : Bool) (w : World) (hr0 : Kd.C ((Kd.slice 58 k58)) w A0 l0.length l0) (h : yAN.all k l0 = some b) :
  Calls Try.prog 212 #[.slice A0 l0.length c0,.func (.func 46) #[] #[]] w fun e w' => e = .returned (.bool b) ∧ Below w.heap.size w w' := by
 obtain ⟨h1,rfl⟩:=yAN.all_open k l0 b h;clear h;have eg : ∀ args w,(callFunc 256 args).run Try.prog w = .ok (.enter 256 args) w:=goes_in Try.func256 (by kernel_rfl) rfl;obtain ⟨w1,hw1⟩ : ∃ w1,w1 = w.alloc (.cells #[.func (.func 46) #[] #[]] 56):=⟨_,rfl⟩;have HW:=Aside0.mk (show Below w.heap.size w w1 by rw [hw1];exact (Below.refl _ w).alloc (Nat.le_refl _) _);have hsz : w.heap.size < w1.heap.size:=by rw [hw1];simp
 have hca : w1.cell? ⟨w.heap.size,0,none⟩ = some (.func (.func 46) #[] #[]):=by rw [hw1];simp
 have HC:=Aside0.mk (yA4.with (yAN.bad k) 256 #[.pointer (some ⟨w.heap.size,0,none⟩)] eg A0 c0 l0 w1 (Kd.C_below hr0 HW.out) (fun W A c x hx hb hr hc=>by
  obtain ⟨t,ht⟩:=h1 x hx;have e : yAN.bad k x = !t:=by unfold yAN.bad;rw [ht];cases t <;> rfl
  rw [e];exact (yAN.pred k A c x w.heap.size W hr hc ((hb.cell (p:=⟨w.heap.size,0,none⟩) hsz).trans hca) t ht).mono (fun e w' hh=>⟨hh.1,hb.trans (hh.2.mono hb.size)⟩)))
 clear hr0 h1 eg hca;generalize l0.any (yAN.bad k) = q at HC ⊢;go_enter Try.func212,Try.ntmps212
 go_wp2_with fail
 rw [← hw1];refine HC.out.mono ?_;rintro e w' ⟨rfl,hb⟩;have HB:=Aside0.mk (HW.out.trans (hb.mono (Nat.le_of_lt hsz)));clear hb HC hw1 hsz;go_wp2;go_ret;exact ⟨rfl,HB.out⟩
set_option maxHeartbeats 4000000 in
set_option maxRecDepth 100000 in
theorem yAN.calls (k : Nat) (A0 : Option Addr) (c0 : Nat) (l0 : List (List (S58))) (r : Bool) (w : World) (hr0 : Kd.C ((Kd.slice 58 k58)) w A0 l0.length l0) (hc0 : l0.length ≤ c0) (h : yAN.f k l0 = some r) :
  Calls Try.prog 115 #[.slice A0 l0.length c0] w fun e w' => e = .returned (.bool r) ∧ Below w.heap.size w w' := by
 obtain ⟨t,ht,h⟩:=Option.bind_eq_some_iff.mp h;have HT:=Aside0.mk ht;have HR:=Aside0.mk hr0;have HB:=Aside0.mk (Below.refl w.heap.size w);clear ht hr0 hc0;go_enter Try.func115,Try.ntmps115
 go_wp2_with fail
 refine (yAd.calls _ _ _ t _ HT.out).mono ?_;rintro e wa ⟨rfl,hd⟩;have HB1:=Aside0.mk (below_step HB.out hd.below);clear hd HB HT;cases t with
 | false =>
  simp only [Bool.false_eq_true,if_false,Option.some.injEq] at h;subst h;go_wp2;go_ret;exact ⟨rfl,HB1.out⟩
 | true =>
  simp only [if_true] at h;have HA:=Aside0.mk (fun (W : World) (hb : Below w.heap.size w W)=>yAN.allOf k A0 c0 l0 r W (Kd.C_below HR.out hb) h);clear h;go_wp2_with fail
  refine (HA.out _ HB1.out).mono ?_;rintro e wb ⟨rfl,hb⟩;have HB2:=Aside0.mk (below_step HB1.out hb);clear hb HA HB1;go_wp2;go_ret;exact ⟨rfl,HB2.out⟩
/-! ### yAS: function 117 -/
def yAS.l0 : Nat → List (S58) → List (S58) → Int → Int → Int → Option (Int)
 | 0,_,_,_,_,_=>none
 | k + 1,x0,x1,x3,x9,x10=>if x10 < x3 then ((yAr.f x0 x10).bind fun t101=>((yAr.f x1 x10).bind fun t102=>(if t101.toList = t102.toList then (yAS.l0 k x0 x1 x3 (wrap64 (x9 + 1)) (wrap64 (x10 + 1))) else (yAS.l0 k x0 x1 x3 x9 (wrap64 (x10 + 1)))))) else (some x9)
def yAS.f (k : Nat) (l0 : List (S58)) (l1 : List (S58)) (a2 : Int) (a3 : Int) : Option (Int):=yAS.l0 k l0 l1 a3 0 a2
set_option maxHeartbeats 8000000 in
set_option maxRecDepth 100000 in
theorem yAS.calls (k : Nat) (A0 : Option Addr) (c0 : Nat) (l0 : List (S58)) (A1 : Option Addr) (c1 : Nat) (l1 : List (S58)) (a2 : Int) (a3 : Int) (r : Int) (w : World) (hr0 : Kd.C k58 w A0 l0.length l0) (hc0 : l0.length ≤ c0) (hr1 : Kd.C k58 w A1 l1.length l1) (hc1 : l1.length ≤ c1) (h : yAS.f k l0 l1 a2 a3 = some r) :
  Calls Try.prog 117 #[.slice A0 l0.length c0,.slice A1 l1.length c1,.int .i64 a2,.int .i64 a3] w fun e w' => e = .returned (.int .i64 r) ∧ Below w.heap.size w w' := by
 have HR0:=Aside0.mk hr0;have HC0:=Aside0.mk hc0;clear hr0 hc0;have HR1:=Aside0.mk hr1;have HC1:=Aside0.mk hc1;clear hr1 hc1;have HB:=Aside0.mk (Below.refl w.heap.size w);have H : (yAS.l0 k l0 l1 a3 0 a2) = some r:=h;clear h;have H' := Aside0.mk H;clear H;go_enter Try.func117,Try.ntmps117
 go_wp2;go_loopg [9,10] k (fun kq v9 v10 w' => ∃ (x9_1 : Int) (x10_1 : Int),v9 = .int .i64 x9_1 ∧ v10 = .int .i64 x10_1 ∧ Aside0 (yAS.l0 kq l0 l1 a3 x9_1 x10_1 = some r) ∧ Aside0 (kq ≤ k) ∧ Aside0 (Below w.heap.size w w'))
 case atStart=>exact ⟨(0),(a2),(q1_),(q1_),H', ⟨Nat.le_refl _⟩,⟨q29_⟩⟩
 case round =>
  clear H';try clear c1
  obtain ⟨x9_1,x10_1,rfl,rfl,HA,HK1,HB⟩:=hrel;cases gk with
  | zero=>exact absurd HA.out (by simp [yAS.l0])
  | succ k1 =>
   have H:=HA.out;clear HA;simp only [yAS.l0] at H;by_cases c5 : x10_1 < a3
   ·rw [if_pos c5] at H;have c5b0:=decide_eq_true c5;clear c5;replace H:=Option.bind_eq_some_iff.mp H;obtain ⟨t101,A60,H⟩:=H;(try dsimp only at H);have A6:=Aside0.mk A60;clear A60;replace H:=Option.bind_eq_some_iff.mp H;obtain ⟨t102,A70,H⟩:=H;(try dsimp only at H);have A7:=Aside0.mk A70;clear A70;by_cases c8 : t101.toList = t102.toList
    ·rw [if_pos c8] at H;have c8b0 : (t101.toList == t102.toList) = true:=beq_iff_eq.mpr c8;have c8b1 : (t101.toList != t102.toList) = false:=bne_eq_false_iff_eq.mpr c8;clear c8;have H' := Aside0.mk H;clear H;go_wp2_with (first | ((with_reducible refine gate_callee (f:=182) rfl ?_);refine goesL_ (some 19) rfl rfl Try.func182 (by kernel_rfl) rfl #[.slice A0 l0.length c0,.int .i64 x10_1] rfl (q30_) ?_;(with_reducible refine (yAr.calls _ _ l0 x10_1 t101 _ ?side1 ?side2 A6.out).mono ?_);(case side1=>exact cX_ (Kd.C_below HR0.out HB.out));(case side2=>exact HC0.out);rintro e w9 ⟨rfl,hb⟩;refine ⟨_,rfl,?_⟩;replace HB:=bS_ HB hb;(try clear hb)) | ((with_reducible refine gate_callee (f:=182) rfl ?_);refine goesL_ (some 22) rfl rfl Try.func182 (by kernel_rfl) rfl #[.slice A1 l1.length c1,.int .i64 x10_1] rfl (q30_) ?_;(with_reducible refine (yAr.calls _ _ l1 x10_1 t102 _ ?side1 ?side2 A7.out).mono ?_);(case side1=>exact cX_ (Kd.C_below HR1.out HB.out));(case side2=>exact HC1.out);rintro e w10 ⟨rfl,hb⟩;refine ⟨_,rfl,?_⟩;replace HB:=bS_ HB hb;(try clear hb)))
     go_roundg k1
     case measure=>have:=HK1.out;omega
     case rel=>exact ⟨(wrap64 (x9_1 + 1)),(wrap64 (x10_1 + 1)),(q1_),(q1_),H', ⟨by have:=HK1.out;omega⟩,⟨q29_⟩⟩
    ·rw [if_neg c8] at H;have c8b0 : (t101.toList == t102.toList) = false:=beq_eq_false_iff_ne.mpr c8;have c8b1 : (t101.toList != t102.toList) = true:=bne_iff_ne.mpr c8;have H' := Aside0.mk H;clear H;go_wp2_with (first | ((with_reducible refine gate_callee (f:=182) rfl ?_);refine goesL_ (some 19) rfl rfl Try.func182 (by kernel_rfl) rfl #[.slice A0 l0.length c0,.int .i64 x10_1] rfl (q30_) ?_;(with_reducible refine (yAr.calls _ _ l0 x10_1 t101 _ ?side1 ?side2 A6.out).mono ?_);(case side1=>exact cX_ (Kd.C_below HR0.out HB.out));(case side2=>exact HC0.out);rintro e w11 ⟨rfl,hb⟩;refine ⟨_,rfl,?_⟩;replace HB:=bS_ HB hb;(try clear hb)) | ((with_reducible refine gate_callee (f:=182) rfl ?_);refine goesL_ (some 22) rfl rfl Try.func182 (by kernel_rfl) rfl #[.slice A1 l1.length c1,.int .i64 x10_1] rfl (q30_) ?_;(with_reducible refine (yAr.calls _ _ l1 x10_1 t102 _ ?side1 ?side2 A7.out).mono ?_);(case side1=>exact cX_ (Kd.C_below HR1.out HB.out));(case side2=>exact HC1.out);rintro e w12 ⟨rfl,hb⟩;refine ⟨_,rfl,?_⟩;replace HB:=bS_ HB hb;(try clear hb)))
     go_roundg k1
     case measure=>have:=HK1.out;omega
     case rel=>exact ⟨(x9_1),(wrap64 (x10_1 + 1)),(q1_),(q1_),H', ⟨by have:=HK1.out;omega⟩,⟨q29_⟩⟩
   ·rw [if_neg c5] at H;have c5b0:=decide_eq_false c5;clear c5;obtain rfl:=Option.some.inj H;go_wp2;go_ret;exact ⟨q4_,q29_⟩
/-! ### yAH: function 16 -/
mutual
def yAH.j0 : Nat → List (List (S58)) → Int → Int → Bool → Option (Int × Int × Bool)
 | 0,_,_,_,_=>none
 | k + 1,x0,x1,x2,x24=>if x24 = true then (some (0,0,false)) else (yAH.l0 k x0 x1 x2 0 (-1) x0 (x0.length : Int) 0)
def yAH.l0 : Nat → List (List (S58)) → Int → Int → Int → Int → List (List (S58)) → Int → Int → Option (Int × Int × Bool)
 | 0,_,_,_,_,_,_,_,_=>none
 | k + 1,x0,x1,x2,x9,x10,x25,x26,x27=>if x27 < x26 then (if 0 ≤ x27 then (if x27 < (x25.length : Int) then (yAH.l1 k x0 x1 x2 x9 x10 x27 (rd_L13 x25 x27) 0 x25 x26 x27 x0 (x0.length : Int) 0) else (none)) else (none)) else (some (x9,x10,true))
def yAH.l1 : Nat → List (List (S58)) → Int → Int → Int → Int → Int → List (S58) → Int → List (List (S58)) → Int → Int → List (List (S58)) → Int → Int → Option (Int × Int × Bool)
 | 0,_,_,_,_,_,_,_,_,_,_,_,_,_,_=>none
 | k + 1,x0,x1,x2,x9,x10,x11,x12,x13,x25,x26,x27,x32,x33,x34=>if x34 < x33 then (if 0 ≤ x34 then (if x34 < (x32.length : Int) then (if x34 = x11 then (yAH.l1 k x0 x1 x2 x9 x10 x11 x12 x13 x25 x26 x27 x32 x33 (wrap64 (x34 + 1))) else ((yAS.f k x12 (rd_L13 x32 x34) x1 x2).bind fun t105=>(yAH.l1 k x0 x1 x2 x9 x10 x11 x12 (wrap64 (x13 + t105)) x25 x26 x27 x32 x33 (wrap64 (x34 + 1))))) else (none)) else (none)) else (if x13 > x10 then (yAH.l0 k x0 x1 x2 x11 x13 x25 x26 (wrap64 (x27 + 1))) else (yAH.l0 k x0 x1 x2 x9 x10 x25 x26 (wrap64 (x27 + 1))))
end
def yAH.f (k : Nat) (l0 : List (List (S58))) (a1 : Int) (a2 : Int) : Option (Int × Int × Bool):=(yAN.f k l0).bind fun t101=>(if t101 = true then ((yAi.f a1 a2).bind fun t102=>(yAH.j0 k l0 a1 a2 (!t102))) else (yAH.j0 k l0 a1 a2 true))
set_option maxHeartbeats 8000000 in
set_option maxRecDepth 100000 in
theorem yAH.calls (k : Nat) (A0 : Option Addr) (c0 : Nat) (l0 : List (List (S58))) (a1 : Int) (a2 : Int) (r1 : Int) (r2 : Int) (r3 : Bool) (w : World) (hr0 : Kd.C (Kd.slice 58 k58) w A0 l0.length l0) (hc0 : l0.length ≤ c0) (h : yAH.f k l0 a1 a2 = some (r1,r2,r3)) :
  Calls Try.prog 16 #[.slice A0 l0.length c0,.int .i64 a1,.int .i64 a2] w fun e w' => e = .returned (.tuple #[.int .i64 r1,.int .i64 r2,.bool r3]) ∧ Below w.heap.size w w' := by
 have HR0:=Aside0.mk hr0;have HC0:=Aside0.mk hc0;clear hr0 hc0;have HB:=Aside0.mk (Below.refl w.heap.size w);have H : ((yAN.f k l0).bind fun t101=>(if t101 = true then ((yAi.f a1 a2).bind fun t102=>(yAH.j0 k l0 a1 a2 (!t102))) else (yAH.j0 k l0 a1 a2 true))) = some (r1,r2,r3):=h;clear h;have HC4:=Aside0.mk H;clear H;go_enter Try.func16,Try.ntmps16
 go_upto_region 1 with (fail)
 go_cut [24] (fun v24 wc=>∃ (kq : Nat) (x24_3 : Bool),v24 = .bool x24_3 ∧ Aside0 (yAH.j0 kq l0 a1 a2 x24_3 = some (r1,r2,r3)) ∧ Aside0 (kq ≤ k) ∧ Aside0 (Below w.heap.size w wc))
 case first =>
  have H:=HC4.out;clear HC4;replace H:=Option.bind_eq_some_iff.mp H;obtain ⟨t101,A50,H⟩:=H;(try dsimp only at H);have A5:=Aside0.mk A50;clear A50;by_cases c6 : t101 = true
  ·subst c6;rw [if_pos rfl] at H;replace H:=Option.bind_eq_some_iff.mp H;obtain ⟨t102,A70,H⟩:=H;(try dsimp only at H);have A7:=Aside0.mk A70;clear A70;have H' := Aside0.mk H;clear H;go_wp2_with (first | ((with_reducible refine gate_callee (f:=115) rfl ?_);refine goesL_ (some 17) rfl rfl Try.func115 (by kernel_rfl) rfl #[.slice A0 l0.length c0] rfl (q30_) ?_;(with_reducible refine (yAN.calls k _ _ l0 true _ ?side1 ?side2 A5.out).mono ?_);(case side1=>exact cX_ (Kd.C_below HR0.out HB.out));(case side2=>exact HC0.out);rintro e w8 ⟨rfl,hb⟩;refine ⟨_,rfl,?_⟩;replace HB:=bS_ HB hb;(try clear hb)) | (go_at_call 116;(with_reducible refine (yAi.calls a1 a2 t102 _ A7.out).mono ?_);rintro e w' ⟨rfl,⟨nd,rfl⟩⟩))
   go_meet
   case rel=>exact ⟨_,(!t102),(q1_),H', ⟨by first | omega | exact Nat.le_refl _⟩,⟨q29_⟩⟩
  ·replace c6:=Bool.eq_false_iff.mpr c6;subst c6;rw [if_neg (show ¬ (false = true) by decide)] at H;have H' := Aside0.mk H;clear H;go_wp2_with (first | ((with_reducible refine gate_callee (f:=115) rfl ?_);refine goesL_ (some 17) rfl rfl Try.func115 (by kernel_rfl) rfl #[.slice A0 l0.length c0] rfl (q30_) ?_;(with_reducible refine (yAN.calls k _ _ l0 false _ ?side1 ?side2 A5.out).mono ?_);(case side1=>exact cX_ (Kd.C_below HR0.out HB.out));(case side2=>exact HC0.out);rintro e w9 ⟨rfl,hb⟩;refine ⟨_,rfl,?_⟩;replace HB:=bS_ HB hb;(try clear hb)))
   go_meet
   case rel=>exact ⟨_,(true),(q1_),H', ⟨by first | omega | exact Nat.le_refl _⟩,⟨q29_⟩⟩
 case rest =>
  clear HC4;try clear c6
  obtain ⟨kq,x24_3,rfl,HA,HJ3,HB⟩:=hcut;cases kq with
  | zero=>exact absurd HA.out (by simp [yAH.j0])
  | succ kj3 =>
   have H:=HA.out;clear HA;simp only [yAH.j0] at H;by_cases c10 : x24_3 = true
   ·subst c10;rw [if_pos rfl] at H;simp only [Option.some.injEq,Prod.mk.injEq] at H;obtain ⟨rfl,rfl,rfl⟩:=H;go_wp2;go_ret3
    exact ⟨q4_,q29_⟩
   ·replace c10:=Bool.eq_false_iff.mpr c10;subst c10;rw [if_neg (show ¬ (false = true) by decide)] at H;have H' := Aside0.mk H;clear H;go_wp2;go_loopg [9,10,27] kj3 (fun kq v9 v10 v27 w' => ∃ (x9_2 : Int) (x10_2 : Int) (x27_2 : Int),v9 = .int .i64 x9_2 ∧ v10 = .int .i64 x10_2 ∧ v27 = .int .i64 x27_2 ∧ Aside0 (yAH.l0 kq l0 a1 a2 x9_2 x10_2 l0 (l0.length : Int) x27_2 = some (r1,r2,r3)) ∧ Aside0 (kq ≤ kj3) ∧ Aside0 (Below w.heap.size w w'))
    case atStart=>exact ⟨(0),((-1)),(0),(q1_),(q1_),(q1_),H', ⟨Nat.le_refl _⟩,⟨q29_⟩⟩
    case round =>
     clear H';try clear c6
     try clear c10
     obtain ⟨x9_2,x10_2,x27_2,rfl,rfl,rfl,HA,HK2,HB⟩:=hrel;cases gk with
     | zero=>exact absurd HA.out (by simp [yAH.l0])
     | succ k2 =>
      have H:=HA.out;clear HA;simp only [yAH.l0] at H;by_cases c11 : x27_2 < (l0.length : Int)
      ·rw [if_pos c11] at H;have c11b0:=decide_eq_true c11;clear c11;by_cases c12 : 0 ≤ x27_2
       ·rw [if_pos c12] at H;have c12b0:=decide_eq_true c12;clear c12;by_cases c13 : x27_2 < (l0.length : Int)
        ·rw [if_pos c13] at H;have c13b0:=decide_eq_true c13;clear c13;have H' := Aside0.mk H;clear H;have p103 : 0 ≤ (x27_2 : Int):=of_decide_eq_true (q2_);have q103 : x27_2 < (l0.length : Int):=of_decide_eq_true (q2_);obtain ⟨ad103,A103_0,c103_0,e103,hx103_0,hl103_0,hi103_0⟩:=at_L13 HR0.out x27_2 p103 q103;cases e103;replace hx103_0:=hB_ HB.out hx103_0;have HR103_0:=Aside0.mk hi103_0;have HC103_0:=Aside0.mk hl103_0;clear hi103_0 hl103_0;replace p103:=eq_true p103;replace q103:=eq_true q103;go_wp2;go_loopg [13,34] k2 (fun kq v13 v34 w' => ∃ (x13_3 : Int) (x34_3 : Int),v13 = .int .i64 x13_3 ∧ v34 = .int .i64 x34_3 ∧ Aside0 (yAH.l1 kq l0 a1 a2 x9_2 x10_2 x27_2 (rd_L13 l0 x27_2) x13_3 l0 (l0.length : Int) x27_2 l0 (l0.length : Int) x34_3 = some (r1,r2,r3)) ∧ Aside0 (kq ≤ k2) ∧ Aside0 (Below w.heap.size w w'))
         case atStart=>exact ⟨(0),(0),(q1_),(q1_),H', ⟨Nat.le_refl _⟩,⟨q29_⟩⟩
         case round =>
          clear H';try clear c6
          try clear c10
          try clear c11
          try clear c11b0
          try clear c12
          try clear c12b0
          try clear c13
          try clear c13b0
          try clear hx103_0
          try clear p103
          try clear q103
          obtain ⟨x13_3,x34_3,rfl,rfl,HA,HK3,HB⟩:=hrel;cases gk with
          | zero=>exact absurd HA.out (by simp [yAH.l1])
          | succ k3 =>
           have H:=HA.out;clear HA;simp only [yAH.l1] at H;by_cases c14 : x34_3 < (l0.length : Int)
           ·rw [if_pos c14] at H;have c14b0:=decide_eq_true c14;clear c14;by_cases c15 : 0 ≤ x34_3
            ·rw [if_pos c15] at H;have c15b0:=decide_eq_true c15;clear c15;by_cases c16 : x34_3 < (l0.length : Int)
             ·rw [if_pos c16] at H;have c16b0:=decide_eq_true c16;clear c16;by_cases c17 : x34_3 = x27_2
              ·rw [if_pos c17] at H;have c17b0 : (x34_3 == x27_2) = true:=beq_iff_eq.mpr c17;have c17b1 : (x34_3 != x27_2) = false:=bne_eq_false_iff_eq.mpr c17;clear c17;have H' := Aside0.mk H;clear H;have p104 : 0 ≤ (x34_3 : Int):=of_decide_eq_true (q2_);have q104 : x34_3 < (l0.length : Int):=of_decide_eq_true (q2_);obtain ⟨ad104,A104_0,c104_0,e104,hx104_0,hl104_0,hi104_0⟩:=at_L13 HR0.out x34_3 p104 q104;obtain rfl : ad103 = ad104:=(by injection e104);replace hx104_0:=hB_ HB.out hx104_0;have HR104_0:=Aside0.mk hi104_0;have HC104_0:=Aside0.mk hl104_0;clear hi104_0 hl104_0;replace p104:=eq_true p104;replace q104:=eq_true q104;go_wp2;go_roundg k3
               case measure=>have:=HJ3.out;have:=HK2.out;have:=HK3.out;omega
               case rel=>exact ⟨(x13_3),(wrap64 (x34_3 + 1)),(q1_),(q1_),H', ⟨by have:=HJ3.out;have:=HK2.out;have:=HK3.out;omega⟩,⟨q29_⟩⟩
              ·rw [if_neg c17] at H;have c17b0 : (x34_3 == x27_2) = false:=beq_eq_false_iff_ne.mpr c17;have c17b1 : (x34_3 != x27_2) = true:=bne_iff_ne.mpr c17;replace H:=Option.bind_eq_some_iff.mp H;obtain ⟨t105,A180,H⟩:=H;(try dsimp only at H);have A18:=Aside0.mk A180;clear A180;have H' := Aside0.mk H;clear H;have p104 : 0 ≤ (x34_3 : Int):=of_decide_eq_true (q2_);have q104 : x34_3 < (l0.length : Int):=of_decide_eq_true (q2_);obtain ⟨ad104,A104_0,c104_0,e104,hx104_0,hl104_0,hi104_0⟩:=at_L13 HR0.out x34_3 p104 q104;obtain rfl : ad103 = ad104:=(by injection e104);replace hx104_0:=hB_ HB.out hx104_0;have HR104_0:=Aside0.mk hi104_0;have HC104_0:=Aside0.mk hl104_0;clear hi104_0 hl104_0;replace p104:=eq_true p104;replace q104:=eq_true q104;go_wp2_with (first | ((with_reducible refine gate_callee (f:=117) rfl ?_);refine goesL_ (some 47) rfl rfl Try.func117 (by kernel_rfl) rfl #[.slice A103_0 (rd_L13 l0 x27_2).length c103_0,.slice A104_0 (rd_L13 l0 x34_3).length c104_0,.int .i64 a1,.int .i64 a2] rfl (q30_) ?_;(with_reducible refine (yAS.calls k3 _ _ (rd_L13 l0 x27_2) _ _ (rd_L13 l0 x34_3) a1 a2 t105 _ ?side1 ?side2 ?side3 ?side4 A18.out).mono ?_);(case side1=>exact cX_ (Kd.C_below HR103_0.out HB.out));(case side2=>exact HC103_0.out);(case side3=>exact cX_ (Kd.C_below HR104_0.out HB.out));(case side4=>exact HC104_0.out);rintro e w19 ⟨rfl,hb⟩;refine ⟨_,rfl,?_⟩;replace HB:=bS_ HB hb;(try clear hb)))
               go_roundg k3
               case measure=>have:=HJ3.out;have:=HK2.out;have:=HK3.out;omega
               case rel=>exact ⟨(wrap64 (x13_3 + t105)),(wrap64 (x34_3 + 1)),(q1_),(q1_),H', ⟨by have:=HJ3.out;have:=HK2.out;have:=HK3.out;omega⟩,⟨q29_⟩⟩
             ·rw [if_neg c16] at H;exact absurd H (by simp)
            ·rw [if_neg c15] at H;exact absurd H (by simp)
           ·rw [if_neg c14] at H;have c14b0:=decide_eq_false c14;clear c14;by_cases c20 : x13_3 > x10_2
            ·rw [if_pos c20] at H;have c20b0 : decide (x10_2 < x13_3) = true:=decide_eq_true c20;clear c20;have H' := Aside0.mk H;clear H;go_wp2;go_roundg k3
             case measure=>have:=HJ3.out;have:=HK2.out;have:=HK3.out;omega
             case rel=>exact ⟨(x27_2),(x13_3),(wrap64 (x27_2 + 1)),(q1_),(q1_),(q1_),H', ⟨by have:=HJ3.out;have:=HK2.out;have:=HK3.out;omega⟩,⟨q29_⟩⟩
            ·rw [if_neg c20] at H;have c20b0 : decide (x10_2 < x13_3) = false:=decide_eq_false c20;clear c20;have H' := Aside0.mk H;clear H;go_wp2;go_roundg k3
             case measure=>have:=HJ3.out;have:=HK2.out;have:=HK3.out;omega
             case rel=>exact ⟨(x9_2),(x10_2),(wrap64 (x27_2 + 1)),(q1_),(q1_),(q1_),H', ⟨by have:=HJ3.out;have:=HK2.out;have:=HK3.out;omega⟩,⟨q29_⟩⟩
        ·rw [if_neg c13] at H;exact absurd H (by simp)
       ·rw [if_neg c12] at H;exact absurd H (by simp)
      ·rw [if_neg c11] at H;have c11b0:=decide_eq_false c11;clear c11;simp only [Option.some.injEq,Prod.mk.injEq] at H;obtain ⟨rfl,rfl,rfl⟩:=H;go_wp2;go_ret3
       exact ⟨q4_,q29_⟩
end Go.Proofs.Ytgapcmmhbegdeaa.G
