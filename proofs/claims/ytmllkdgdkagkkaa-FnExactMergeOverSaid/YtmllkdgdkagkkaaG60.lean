-- Written by this session's own program over the kit's print (wip/tools/myprint.py); Lean checks it.
import Derived.Test.YtmllkdgdkagkkaaMBase
import Derived.Test.YtmllkdgdkagkkaaG0
import Derived.Test.YtmllkdgdkagkkaaG8
import Derived.Test.YtmllkdgdkagkkaaG12
import Derived.Test.YtmllkdgdkagkkaaG52
import Derived.Test.YtmllkdgdkagkkaaG53
namespace Go.Proofs.Ytmllkdgdkagkkaa.G
open Go.RowKit Go.Proofs.YtmllkdgdkagkkaaW.PrintWords Go.Proofs.YtmllkdgdkagkkaaW.PrintLast Go.Proofs.YtmllkdgdkagkkaaW.PrintMore
attribute [local go_sem] max2_int min2_int max_two min_two max_three min_three max_four min_four str_geq str_gtr str_leq   -- for this text's walks alone
set_option linter.unusedVariables false
set_option linter.unusedSimpArgs false
/-! ### impl_MergeOver: function 54 -/
def impl_MergeOver.has (l : List S63) (x : S63) : Bool:=l.any (fun y=>x.f0 == y.f0 && (x.f1 == y.f1 && x.f2.toList == y.f2.toList))
def impl_MergeOver.p (l m : List S63) (x : S63) : Bool:=impl_MergeOver.has l x && !impl_MergeOver.has m x
def impl_MergeOver.f (k : Nat) (l0 l1 l2 : List S63) : Option (List S63 × List (List Int) × Bool):=(impl_IsTier.f k l0).bind fun t=>if t = true then ((impl_IsTier.f k l1).bind fun u=>if u = true then ((impl_IsTier.f k l2).bind fun v=>if v = true then (if l1.length * 32 ≤ 140737488355328 ∧ l2.length * 32 ≤ 140737488355328 then impl_merged.f k (l1.filter (fun x=>!impl_MergeOver.p l0 l2 x)) (l2.filter (fun x=>!impl_MergeOver.p l0 l1 x)) else none) else some ([],[],false)) else some ([],[],false)) else some ([],[],false)
theorem impl_MergeOver.look (l : List S63) (hl : l.length ≤ 9223372036854775807) (x : S63) : ∀ d j : Nat,j + d = l.length → ∃ r,slices_Index_Note.l0 (d + 1) l (l.length : Int) (j : Int) x.f0 x.f1 x.f2 = some r ∧ decide (r ≥ 0) = impl_MergeOver.has (l.drop j) x
 | 0,j,hj=>by
  rw [List.drop_eq_nil_of_le (by omega)];refine ⟨-1,?_,rfl⟩;rw [slices_Index_Note.l0,if_neg (by omega)]
 | d + 1,j,hj=>by
  obtain ⟨r,h1,h2⟩:=impl_MergeOver.look l hl x d (j + 1) (by omega);have hw : wrap64 ((j : Int) + 1) = ((j + 1 : Nat) : Int):=by unfold wrap64;omega
  have e : rd_T63 l (j : Int) = l[j]'(by omega):=by
   show l.getD j z63 = _;rw [List.getD_eq_getElem?_getD,List.getElem?_eq_getElem (by omega)];rfl
  rw [slices_Index_Note.l0,if_pos (by omega),if_pos (by omega),if_pos (by omega),hw,h1,List.drop_eq_getElem_cons (show j < l.length by omega),impl_MergeOver.has,List.any_cons,← e];by_cases hq : (x.f0 == (rd_T63 l (j : Int)).f0 && (x.f1 == (rd_T63 l (j : Int)).f1 && (x.f2.toList == (rd_T63 l (j : Int)).f2.toList))) = true
  ·rw [if_pos hq,hq];exact ⟨_,rfl,by simp⟩
  ·rw [if_neg hq,Bool.eq_false_iff.2 hq,Bool.false_or];exact ⟨_,rfl,h2⟩
theorem impl_MergeOver.contains (l : List S63) (hl : l.length ≤ 9223372036854775807) (x : S63) : slices_Contains_Note.f (l.length + 1) l x.f0 x.f1 x.f2 = some (impl_MergeOver.has l x):=by
 obtain ⟨r,h1,h2⟩:=impl_MergeOver.look l hl x l.length 0 (by omega);unfold slices_Contains_Note.f slices_Index_Note.f;have h3 : slices_Index_Note.l0 (l.length + 1) l (l.length : Int) 0 x.f0 x.f1 x.f2 = some r:=h1;rw [h3];exact congrArg some h2
set_option maxHeartbeats 4000000 in
set_option maxRecDepth 100000 in
theorem impl_MergeOver.pred (A0 : Option Addr) (c0 : Nat) (l0 : List S63) (A2 : Option Addr) (c2 : Nat) (l2 : List S63) (B D : Nat) (w : World) (hr0 : Kd.C k63 w A0 l0.length l0) (hc0 : l0.length ≤ c0) (hr2 : Kd.C k63 w A2 l2.length l2) (hc2 : l2.length ≤ c2) (hB : B < w.heap.size) (hD : D < w.heap.size) (hb0 : w.cell? ⟨B,0,none⟩ = some (.slice A0 l0.length c0)) (hd0 : w.cell? ⟨D,0,none⟩ = some (.slice A2 l2.length c2)) (W : World) (x : S63) (hb : Below w.heap.size w W) :
  Calls Try.prog 110 (#[.agg #[.int .i64 x.f0,.int .i64 x.f1,.string x.f2]] ++ #[.pointer (some ⟨B,0,none⟩),.pointer (some ⟨D,0,none⟩)]) W fun e w' => e = .returned (.bool (impl_MergeOver.p l0 l2 x)) ∧ Below W.heap.size W w' := by
 have hb1 : W.cell? ⟨B,0,none⟩ = some (.slice A0 l0.length c0):=(hb.cell (p:=⟨B,0,none⟩) hB).trans hb0;have hd1 : W.cell? ⟨D,0,none⟩ = some (.slice A2 l2.length c2):=(hb.cell (p:=⟨D,0,none⟩) hD).trans hd0;have hBW : B < W.heap.size:=Nat.lt_of_lt_of_le hB hb.size;have hDW : D < W.heap.size:=Nat.lt_of_lt_of_le hD hb.size;have hne : B ≠ W.heap.size:=by omega
 have hnd : D ≠ W.heap.size:=by omega
 have HC0:=Aside0.mk (show ∀ W2,Below W.heap.size W W2 → Calls Try.prog 111 #[.slice A0 l0.length c0,.agg #[.int .i64 x.f0,.int .i64 x.f1,.string x.f2]] W2 fun e w' => e = .returned (.bool (impl_MergeOver.has l0 x)) ∧ Below W2.heap.size W2 w' from fun W2 h2=>slices_Contains_Note.calls _ A0 c0 l0 x.f0 x.f1 x.f2 _ W2 (Kd.C_below hr0 (hb.trans (h2.mono hb.size))) hc0 (impl_MergeOver.contains l0 hr0.2.1 x));have HC2:=Aside0.mk (show ∀ W2,Below W.heap.size W W2 → Calls Try.prog 111 #[.slice A2 l2.length c2,.agg #[.int .i64 x.f0,.int .i64 x.f1,.string x.f2]] W2 fun e w' => e = .returned (.bool (impl_MergeOver.has l2 x)) ∧ Below W2.heap.size W2 w' from fun W2 h2=>slices_Contains_Note.calls _ A2 c2 l2 x.f0 x.f1 x.f2 _ W2 (Kd.C_below hr2 (hb.trans (h2.mono hb.size))) hc2 (impl_MergeOver.contains l2 hr2.2.1 x));clear hb0 hd0 hb hB hD hr0 hc0 hr2 hc2;unfold impl_MergeOver.p;generalize impl_MergeOver.has l0 x = q0 at HC0 ⊢;generalize impl_MergeOver.has l2 x = q2 at HC2 ⊢;show Calls Try.prog 110 #[.agg #[.int .i64 x.f0,.int .i64 x.f1,.string x.f2],.pointer (some ⟨B,0,none⟩),.pointer (some ⟨D,0,none⟩)] W _;go_enter Try.func110,Try.ntmps110
 go_wp2_with fail
 refine MOwn.named ?_;intro W1 hW1;have HB1:=Aside0.mk (show Below W.heap.size W W1 by subst hW1;exact (Below.refl _ W).alloc (Nat.le_refl _) _);have hn0 : W1.cell? ⟨W.heap.size,0,none⟩ = some (.int .i64 x.f0):=by subst hW1;simp
 have hn1 : W1.cell? ⟨W.heap.size,1,none⟩ = some (.int .i64 x.f1):=by subst hW1;simp
 have hn2 : W1.cell? ⟨W.heap.size,2,none⟩ = some (.string x.f2):=by subst hW1;simp
 have hsz : W.heap.size < W1.heap.size:=by subst hW1;simp
 replace hd1:=(HB1.out.cell (p:=⟨D,0,none⟩) hDW).trans hd1;clear hW1 hb1;refine (HC0.out W1 HB1.out).mono ?_;rintro e W2 ⟨rfl,hb2⟩;have HB2:=Aside0.mk (HB1.out.trans (hb2.mono HB1.out.size));replace hn0:=(hb2.cell (p:=⟨W.heap.size,0,none⟩) hsz).trans hn0;replace hn1:=(hb2.cell (p:=⟨W.heap.size,1,none⟩) hsz).trans hn1;replace hn2:=(hb2.cell (p:=⟨W.heap.size,2,none⟩) hsz).trans hn2;replace hd1:=(hb2.cell (p:=⟨D,0,none⟩) (Nat.lt_trans hDW hsz)).trans hd1;clear hb2 HC0 HB1;cases q0 with
 | false =>
  go_wp2;go_ret;exact ⟨rfl,HB2.out⟩
 | true =>
  go_wp2_with fail
  refine (HC2.out W2 HB2.out).mono ?_;rintro e W3 ⟨rfl,hb3⟩;have HB3:=Aside0.mk (HB2.out.trans (hb3.mono HB2.out.size));clear hb3 HC2 HB2;go_wp2;go_ret;exact ⟨by cases q2 <;> rfl,HB3.out⟩
set_option maxHeartbeats 8000000 in
set_option maxRecDepth 100000 in
theorem impl_MergeOver.keep (A0 : Option Addr) (c0 : Nat) (l0 : List S63) (A1 : Option Addr) (c1 : Nat) (l1 : List S63) (A2 : Option Addr) (c2 : Nat) (l2 : List S63) (B : Nat) (w : World) (hr0 : Kd.C k63 w A0 l0.length l0) (hc0 : l0.length ≤ c0) (hr1 : Kd.C k63 w A1 l1.length l1) (hc1 : l1.length ≤ c1) (hr2 : Kd.C k63 w A2 l2.length l2) (hc2 : l2.length ≤ c2) (hB : B < w.heap.size) (hb0 : w.cell? ⟨B,0,none⟩ = some (.slice A0 l0.length c0)) (hL : l1.length * 32 ≤ 140737488355328) :
  Calls Try.prog 108 (#[.slice A1 l1.length c1,.slice A2 l2.length c2] ++ #[.pointer (some ⟨B,0,none⟩)]) w fun e w' => ∃ v0_ : Value,e = .returned v0_ ∧ Kd.R k63 63 w' w.heap.size (fun _=>True) v0_ (l1.filter (fun x=>!impl_MergeOver.p l0 l2 x)) ∧ Below w.heap.size w w' := by
 have eg : ∀ args w,(callFunc 110 args).run Try.prog w = .ok (.enter 110 args) w:=goes_in Try.func110 (by kernel_rfl) rfl;have HCL:=Aside0.mk (show slices_Clone_Note.f l1 = some l1 by rw [slices_Clone_Note.f,if_pos hL]);clear hL;obtain ⟨w1,hw1⟩ : ∃ w1,w1 = w.alloc (.cells #[.slice A2 l2.length c2] 26):=⟨_,rfl⟩;have HW:=Aside0.mk (show Below w.heap.size w w1 by rw [hw1];exact (Below.refl _ w).alloc (Nat.le_refl _) (.cells #[.slice A2 l2.length c2] 26));have HSZ:=Aside0.mk (show w1.heap.size = w.heap.size + 1 by rw [hw1];simp);have HCA:=Aside0.mk (show w1.cell? ⟨w.heap.size,0,none⟩ = some (.slice A2 l2.length c2) by rw [hw1];simp);have HCB:=Aside0.mk ((HW.out.cell (p:=⟨B,0,none⟩) hB).trans hb0);have HBB:=Aside0.mk hB;have HR0:=Aside0.mk (Kd.C_below hr0 HW.out);have HR1:=Aside0.mk (Kd.C_below hr1 HW.out);have HR2:=Aside0.mk (Kd.C_below hr2 HW.out);have HC0:=Aside0.mk hc0;have HC1:=Aside0.mk hc1;have HC2:=Aside0.mk hc2
 have HTH:=Aside0.mk (fun (A : Option Addr) (c : Nat) (W : World) (hb : Below w1.heap.size w1 W) (hR : Kd.R k63 63 W w1.heap.size (fun _=>True) (.slice A l1.length c) l1) =>
  slices_DeleteFunc_Note.with (impl_MergeOver.p l0 l2) 110 #[.pointer (some ⟨B,0,none⟩),.pointer (some ⟨w.heap.size,0,none⟩)] eg A c l1 w1 W hb hR
   (fun W2 x hb2=>impl_MergeOver.pred A0 c0 l0 A2 c2 l2 B w.heap.size w1 HR0.out HC0.out HR2.out HC2.out (by have:=HSZ.out;have:=HBB.out;omega) (by have:=HSZ.out;omega) HCB.out HCA.out W2 x hb2))
 have HB:=Aside0.mk (Below.refl w1.heap.size w1);clear hr0 hc0 hr1 hc1 hr2 hc2 hb0 hB eg;show Calls Try.prog 108 #[.slice A1 l1.length c1,.slice A2 l2.length c2,.pointer (some ⟨B,0,none⟩)] w _;go_enter Try.func108,Try.ntmps108
 go_wp2_with fail
 rw [← hw1];clear hw1;refine MOwn.named ?_;intro wd hW;have HB1:=Aside0.mk (show Below w1.heap.size w1 wd by exact q16_);clear HB hW;refine (slices_Clone_Note.calls _ c1 l1 l1 wd (Kd.C_below HR1.out HB1.out) HC1.out HCL.out).mono ?_;rintro e we ⟨v,rfl,ho,hb⟩;have HO:=Aside0.mk (Kd.R_lower ho HB1.out.size);have HB:=Aside0.mk (HB1.out.trans (hb.mono HB1.out.size));clear ho hb HB1;obtain ⟨Ao,co,rfl⟩:=Kd.R_slice HO.out;go_wp2_with fail
 refine MOwn.named ?_;intro wf hW;have HB1:=Aside0.mk (show Below w1.heap.size w1 wf by exact q16_);have HO1:=Aside0.mk (show Kd.R k63 63 wf w1.heap.size (fun _=>True) (.slice Ao l1.length co) l1 by subst hW;(with_reducible repeat (first | apply Kd.R_drewN | apply Kd.R_drew));exact HO.out);clear HB HO hW;refine (HTH.out Ao co wf HB1.out HO1.out).mono ?_;rintro e wg ⟨v,rfl,ho,hb⟩;have HO:=Aside0.mk (Kd.R_lower ho HW.out.size);have HB:=Aside0.mk hb;clear ho hb HB1 HO1;go_wp2;go_ret;exact ⟨_,rfl,by (with_reducible repeat (first | apply Kd.R_drewN | apply Kd.R_drew));exact HO.out,HW.out.trans (Below.mono (q13_) HW.out.size)⟩
set_option maxHeartbeats 8000000 in
set_option maxRecDepth 100000 in
theorem impl_MergeOver.calls (k : Nat) (A0 : Option Addr) (c0 : Nat) (l0 : List S63) (A1 : Option Addr) (c1 : Nat) (l1 : List S63) (A2 : Option Addr) (c2 : Nat) (l2 : List S63) (r1 : List S63) (r2 : List (List Int)) (r3 : Bool) (w : World) (hr0 : Kd.C k63 w A0 l0.length l0) (hc0 : l0.length ≤ c0) (hr1 : Kd.C k63 w A1 l1.length l1) (hc1 : l1.length ≤ c1) (hr2 : Kd.C k63 w A2 l2.length l2) (hc2 : l2.length ≤ c2) (h : impl_MergeOver.f k l0 l1 l2 = some (r1,r2,r3)) :
  Calls Try.prog 54 #[.slice A0 l0.length c0,.slice A1 l1.length c1,.slice A2 l2.length c2] w fun e w' => ∃ v0_ v1_ : Value,e = .returned (.tuple #[v0_,v1_,.bool r3]) ∧ Kd.R k63 63 w' w.heap.size (fun _=>True) v0_ r1 ∧ Kd.S ((Kd.slice 3 (Kd.int .i64))) 91 w' w.heap.size (fun _=>True) v1_ r2 ∧ Below w.heap.size w w' := by
 obtain ⟨t,ht,h⟩:=Option.bind_eq_some_iff.mp h;have eg : ∀ args w,(callFunc 108 args).run Try.prog w = .ok (.enter 108 args) w:=goes_in Try.func108 (by kernel_rfl) rfl;obtain ⟨w1,hw1⟩ : ∃ w1,w1 = w.alloc (.cells #[.slice A0 l0.length c0] 26):=⟨_,rfl⟩;have HW:=Aside0.mk (show Below w.heap.size w w1 by rw [hw1];exact (Below.refl _ w).alloc (Nat.le_refl _) (.cells #[.slice A0 l0.length c0] 26));have HSZ:=Aside0.mk (show w.heap.size < w1.heap.size by rw [hw1];simp);have hca:=show w1.cell? ⟨w.heap.size,0,none⟩ = some (.slice A0 l0.length c0) by rw [hw1];simp
 have HCA:=Aside0.mk hca;have HT:=Aside0.mk (impl_IsTier.calls k A0 c0 l0 t w1 (Kd.C_below hr0 HW.out) hc0 ht);have HR0:=Aside0.mk (Kd.C_below hr0 HW.out);have HR1:=Aside0.mk (Kd.C_below hr1 HW.out);have HR2:=Aside0.mk (Kd.C_below hr2 HW.out);have HC0:=Aside0.mk hc0;have HC1:=Aside0.mk hc1;have HC2:=Aside0.mk hc2;clear ht hr0 hc0 hr1 hc1 hr2 hc2;go_enter Try.func54,Try.ntmps54
 go_wp2_with fail
 rw [← hw1];refine HT.out.mono ?_;clear HT hw1;rintro e wa ⟨rfl,hb⟩;have HB:=Aside0.mk hb;clear hb hca;cases t with
 | false =>
  simp only [Bool.false_eq_true,if_false,Option.some.injEq,Prod.mk.injEq] at h;obtain ⟨rfl,rfl,rfl⟩:=h;go_wp2;go_ret3
  exact ⟨_,_,rfl,Kd.R_nil _ _ _ _ _,Kd.S_nil _ _ _ _ _,HW.out.trans (HB.out.mono HW.out.size)⟩
 | true =>
  simp only [if_true] at h;obtain ⟨u,hu,h⟩:=Option.bind_eq_some_iff.mp h;have HU:=Aside0.mk (fun (W : World) (hb : Below w1.heap.size w1 W)=>impl_IsTier.calls k A1 c1 l1 u W (Kd.C_below HR1.out hb) HC1.out hu);clear hu;go_wp2_with fail
  refine MOwn.named ?_;intro wb hW;have HB1:=Aside0.mk (show Below w1.heap.size w1 wb by exact q16_);clear HB hW;refine (HU.out wb HB1.out).mono ?_;clear HU;rintro e wc ⟨rfl,hb⟩;have HB:=Aside0.mk (HB1.out.trans (hb.mono HB1.out.size));clear hb HB1;cases u with
  | false =>
   simp only [Bool.false_eq_true,if_false,Option.some.injEq,Prod.mk.injEq] at h;obtain ⟨rfl,rfl,rfl⟩:=h;go_wp2;go_ret3
   exact ⟨_,_,rfl,Kd.R_nil _ _ _ _ _,Kd.S_nil _ _ _ _ _,HW.out.trans (Below.mono (q13_) HW.out.size)⟩
  | true =>
   simp only [if_true] at h;obtain ⟨x,hx,h⟩:=Option.bind_eq_some_iff.mp h;have HX:=Aside0.mk (fun (W : World) (hb : Below w1.heap.size w1 W)=>impl_IsTier.calls k A2 c2 l2 x W (Kd.C_below HR2.out hb) HC2.out hx);clear hx;go_wp2_with fail
   refine MOwn.named ?_;intro wd hW;have HB1:=Aside0.mk (show Below w1.heap.size w1 wd by exact q16_);clear HB hW;refine (HX.out wd HB1.out).mono ?_;clear HX;rintro e we ⟨rfl,hb⟩;have HB:=Aside0.mk (HB1.out.trans (hb.mono HB1.out.size));clear hb HB1;cases x with
   | false =>
    simp only [Bool.false_eq_true,if_false,Option.some.injEq,Prod.mk.injEq] at h;obtain ⟨rfl,rfl,rfl⟩:=h;go_wp2;go_ret3
    exact ⟨_,_,rfl,Kd.R_nil _ _ _ _ _,Kd.S_nil _ _ _ _ _,HW.out.trans (Below.mono (q13_) HW.out.size)⟩
   | true =>
    by_cases hL : l1.length * 32 ≤ 140737488355328 ∧ l2.length * 32 ≤ 140737488355328
    case neg=>simp [hL] at h
    simp only [if_true,if_pos hL] at h;have HH:=Aside0.mk h;have HL:=Aside0.mk hL;clear hL h;have HK1:=Aside0.mk (fun (W : World) (hb : Below w1.heap.size w1 W)=>impl_MergeOver.keep A0 c0 l0 A1 c1 l1 A2 c2 l2 w.heap.size W (Kd.C_below HR0.out hb) HC0.out (Kd.C_below HR1.out hb) HC1.out (Kd.C_below HR2.out hb) HC2.out (Nat.lt_of_lt_of_le HSZ.out hb.size) ((hb.cell (p:=⟨w.heap.size,0,none⟩) HSZ.out).trans HCA.out) HL.out.1);have HK2:=Aside0.mk (fun (W : World) (hb : Below w1.heap.size w1 W)=>impl_MergeOver.keep A0 c0 l0 A2 c2 l2 A1 c1 l1 w.heap.size W (Kd.C_below HR0.out hb) HC0.out (Kd.C_below HR2.out hb) HC2.out (Kd.C_below HR1.out hb) HC1.out (Nat.lt_of_lt_of_le HSZ.out hb.size) ((hb.cell (p:=⟨w.heap.size,0,none⟩) HSZ.out).trans HCA.out) HL.out.2);generalize l1.filter (fun x=>!impl_MergeOver.p l0 l2 x) = m1 at HK1 HH;generalize l2.filter (fun x=>!impl_MergeOver.p l0 l1 x) = m2 at HK2 HH;go_wp2_with fail
    refine MOwn.named ?_;intro wf hW;have HB1:=Aside0.mk (show Below w1.heap.size w1 wf by exact q16_);clear HB hW;refine (HK1.out wf HB1.out).mono ?_;rintro e wg ⟨v,rfl,ho,hb⟩;have HO:=Aside0.mk (Kd.R_lower ho HB1.out.size);have HB:=Aside0.mk (HB1.out.trans (hb.mono HB1.out.size));clear ho hb HB1;obtain ⟨Ao,co,rfl⟩:=Kd.R_slice HO.out;go_wp2_with fail
    refine MOwn.named ?_;intro wh hW;have HB1:=Aside0.mk (show Below w1.heap.size w1 wh by exact q16_);have HO1:=Aside0.mk (show Kd.R k63 63 wh w1.heap.size (fun _=>True) (.slice Ao m1.length co) m1 by subst hW;(with_reducible repeat (first | apply Kd.R_drewN | apply Kd.R_drew));exact HO.out);clear HB HO hW;refine (HK2.out wh HB1.out).mono ?_;rintro e wi ⟨v,rfl,ho,hb⟩;have HP:=Aside0.mk (Kd.R_lower ho HB1.out.size);have HO:=Aside0.mk (Kd.R_below HO1.out hb);have HB:=Aside0.mk (HB1.out.trans (hb.mono HB1.out.size));clear ho hb HB1 HO1;obtain ⟨Ap,cp,rfl⟩:=Kd.R_slice HP.out;go_wp2_with fail
    refine MOwn.named ?_;intro wj hW;have HB1:=Aside0.mk (show Below w1.heap.size w1 wj by exact q16_);have HO1:=Aside0.mk (show Kd.R k63 63 wj w1.heap.size (fun _=>True) (.slice Ao m1.length co) m1 by subst hW;(with_reducible repeat (first | apply Kd.R_drewN | apply Kd.R_drew));exact HO.out);have HP1:=Aside0.mk (show Kd.R k63 63 wj w1.heap.size (fun _=>True) (.slice Ap m2.length cp) m2 by subst hW;(with_reducible repeat (first | apply Kd.R_drewN | apply Kd.R_drew));exact HP.out);clear HB HO HP hW;refine (impl_merged.calls k Ao co m1 Ap cp m2 r1 r2 r3 wj (Kd.R_reads' HO1.out).2.2 (Kd.R_reads' HO1.out).2.1 (Kd.R_reads' HP1.out).2.2 (Kd.R_reads' HP1.out).2.1 HH.out).mono ?_;rintro e wk ⟨v0,v1,rfl,ho,hp,hb⟩;have hle : w.heap.size ≤ wj.heap.size:=Nat.le_trans (Nat.le_of_lt HSZ.out) HB1.out.size;have HO:=Aside0.mk (Kd.R_lower ho hle);have HP:=Aside0.mk (Kd.S_lower hp hle);have HB:=Aside0.mk (HB1.out.trans (hb.mono HB1.out.size));clear ho hp hb HB1 HO1 HP1 hle;go_wp2;go_ret3
    exact ⟨_,_,rfl,by (with_reducible repeat (first | apply Kd.R_drewN | apply Kd.R_drew));exact HO.out,by (with_reducible repeat (first | apply Kd.S_drewN | apply Kd.S_drew));exact HP.out,HW.out.trans (Below.mono (q13_) HW.out.size)⟩
end Go.Proofs.Ytmllkdgdkagkkaa.G
