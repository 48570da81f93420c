-- Written by this session's own program over the kit's print (wip/tools/myprint.py); Lean checks it.
import Derived.Test.YtgapcmmhbegdeaaMBase
import Derived.Test.YtgapcmmhbegdeaaG0
import Derived.Test.YtgapcmmhbegdeaaG7
import Derived.Test.YtgapcmmhbegdeaaG26
namespace Go.Proofs.Ytgapcmmhbegdeaa.G
open Go.RowKit Go.Proofs.YtgapcmmhbegdeaaW.PrintWords Go.Proofs.YtgapcmmhbegdeaaW.PrintLast Go.Proofs.YtgapcmmhbegdeaaW.PrintMore
attribute [local go_sem] max2_int min2_int max_two min_two max_three min_three max_four min_four str_geq str_gtr str_leq   -- for this text's walks alone
set_option linter.unusedVariables false
set_option linter.unusedSimpArgs false
/-! ### yAj: function 98 -/
def yAj.has (l : List S58) (x : S58) : Bool:=l.any (fun y=>x.f0 == y.f0 && (x.f1 == y.f1 && x.f2.toList == y.f2.toList))
def yAj.p (l : List S58) (x : S58) : Bool:=yAj.has l x
def yAj.f (k : Nat) (l0 l1 : List S58) : Option (List S58 × Bool):=(yAJ.f k l0).bind fun t=>if t = true then ((yAJ.f k l1).bind fun u=>if u = true then (if l0.length * 32 ≤ 140737488355328 then some (l0.filter (fun x=>!yAj.p l1 x),true) else none) else some ([],false)) else some ([],false)
theorem yAj.look (l : List S58) (hl : l.length ≤ 9223372036854775807) (x : S58) : ∀ d j : Nat,j + d = l.length → ∃ r,yAO.l0 (d + 1) l (l.length : Int) (j : Int) x.f0 x.f1 x.f2 = some r ∧ decide (r ≥ 0) = yAj.has (l.drop j) x
 | 0,j,hj=>by
  rw [List.drop_eq_nil_of_le (by omega)];refine ⟨-1,?_,rfl⟩;rw [yAO.l0,if_neg (by omega)]
 | d + 1,j,hj=>by
  obtain ⟨r,h1,h2⟩:=yAj.look l hl x d (j + 1) (by omega);have hw : wrap64 ((j : Int) + 1) = ((j + 1 : Nat) : Int):=by unfold wrap64;omega
  have e : rd_T58 l (j : Int) = l[j]'(by omega):=by
   show l.getD j z58 = _;rw [List.getD_eq_getElem?_getD,List.getElem?_eq_getElem (by omega)];rfl
  rw [yAO.l0,if_pos (by omega),if_pos (by omega),if_pos (by omega),hw,h1,List.drop_eq_getElem_cons (show j < l.length by omega),yAj.has,List.any_cons,← e];by_cases hq : (x.f0 == (rd_T58 l (j : Int)).f0 && (x.f1 == (rd_T58 l (j : Int)).f1 && (x.f2.toList == (rd_T58 l (j : Int)).f2.toList))) = true
  ·rw [if_pos hq,hq];exact ⟨_,rfl,by simp⟩
  ·rw [if_neg hq,Bool.eq_false_iff.2 hq,Bool.false_or];exact ⟨_,rfl,h2⟩
theorem yAj.contains (l : List S58) (hl : l.length ≤ 9223372036854775807) (x : S58) : yAi.f (l.length + 1) l x.f0 x.f1 x.f2 = some (yAj.has l x):=by
 obtain ⟨r,h1,h2⟩:=yAj.look l hl x l.length 0 (by omega);unfold yAi.f yAO.f;have h3 : yAO.l0 (l.length + 1) l (l.length : Int) 0 x.f0 x.f1 x.f2 = some r:=h1;rw [h3];exact congrArg some h2
set_option maxHeartbeats 4000000 in
set_option maxRecDepth 100000 in
theorem yAj.pred (A1 : Option Addr) (c1 : Nat) (l1 : List S58) (B : Nat) (w : World) (hr1 : Kd.C k58 w A1 l1.length l1) (hc1 : l1.length ≤ c1) (hB : B < w.heap.size) (hb0 : w.cell? ⟨B,0,none⟩ = some (.slice A1 l1.length c1)) (W : World) (x : S58) (hb : Below w.heap.size w W) :
  Calls Try.prog 198 (#[.agg #[.int .i64 x.f0,.int .i64 x.f1,.string x.f2]] ++ #[.pointer (some ⟨B,0,none⟩)]) W fun e w' => e = .returned (.bool (yAj.p l1 x)) ∧ Below W.heap.size W w' := by
 have hb1 : W.cell? ⟨B,0,none⟩ = some (.slice A1 l1.length c1):=(hb.cell (p:=⟨B,0,none⟩) hB).trans hb0;have hBW : B < W.heap.size:=Nat.lt_of_lt_of_le hB hb.size;have hne : B ≠ W.heap.size:=by omega
 have HT:=Aside0.mk (yAj.contains l1 hr1.2.1 x);have HC:=Aside0.mk (show ∀ W2,Below W.heap.size W W2 → Calls Try.prog 199 #[.slice A1 l1.length c1,.agg #[.int .i64 x.f0,.int .i64 x.f1,.string x.f2]] W2 fun e w' => e = .returned (.bool (yAj.has l1 x)) ∧ Below W2.heap.size W2 w' from fun W2 h2=>yAi.calls _ A1 c1 l1 x.f0 x.f1 x.f2 _ W2 (Kd.C_below hr1 (hb.trans (h2.mono hb.size))) hc1 HT.out);clear hb0 hb hB hr1 hc1 HT;unfold yAj.p;generalize yAj.has l1 x = q at HC ⊢;show Calls Try.prog 198 #[.agg #[.int .i64 x.f0,.int .i64 x.f1,.string x.f2],.pointer (some ⟨B,0,none⟩)] W _;go_enter Try.func198,Try.ntmps198
 go_wp2_with fail
 refine (HC.out _ ((Below.refl _ W).alloc (Nat.le_refl _) _)).mono ?_;rintro e w' ⟨rfl,hb2⟩;have HB2:=Aside0.mk (((Below.refl _ W).alloc (Nat.le_refl _) _).trans (hb2.mono (by simp)) : Below W.heap.size W w');clear hb2 HC;go_wp2;go_ret;exact ⟨rfl,HB2.out⟩
set_option maxHeartbeats 8000000 in
set_option maxRecDepth 100000 in
theorem yAj.calls (k : Nat) (A0 : Option Addr) (c0 : Nat) (l0 : List S58) (A1 : Option Addr) (c1 : Nat) (l1 : List S58) (r1 : List S58) (r2 : Bool) (w : World) (hr0 : Kd.C k58 w A0 l0.length l0) (hc0 : l0.length ≤ c0) (hr1 : Kd.C k58 w A1 l1.length l1) (hc1 : l1.length ≤ c1) (h : yAj.f k l0 l1 = some (r1,r2)) :
  Calls Try.prog 98 #[.slice A0 l0.length c0,.slice A1 l1.length c1] w fun e w' => ∃ v0_ : Value,e = .returned (.tuple #[v0_,.bool r2]) ∧ Kd.R k58 58 w' w.heap.size (fun _=>True) v0_ r1 ∧ Below w.heap.size w w' := by
 obtain ⟨t,ht,h⟩:=Option.bind_eq_some_iff.mp h;have eg : ∀ args w,(callFunc 198 args).run Try.prog w = .ok (.enter 198 args) w:=goes_in Try.func198 (by kernel_rfl) rfl;obtain ⟨w1,hw1⟩ : ∃ w1,w1 = w.alloc (.cells #[.slice A1 l1.length c1] 30):=⟨_,rfl⟩;have HW:=Aside0.mk (show Below w.heap.size w w1 by rw [hw1];exact (Below.refl _ w).alloc (Nat.le_refl _) (.cells #[.slice A1 l1.length c1] 30));have HSZ:=Aside0.mk (show w1.heap.size = w.heap.size + 1 by rw [hw1];simp);have hca:=show w1.cell? ⟨w.heap.size,0,none⟩ = some (.slice A1 l1.length c1) by rw [hw1];simp
 have HCA:=Aside0.mk hca;have HT:=Aside0.mk (yAJ.calls k A0 c0 l0 t w1 (Kd.C_below hr0 HW.out) hc0 ht);have HR0:=Aside0.mk (Kd.C_below hr0 HW.out);have HR1:=Aside0.mk (Kd.C_below hr1 HW.out);have HC0:=Aside0.mk hc0;have HC1:=Aside0.mk hc1
 have HTH:=Aside0.mk (fun (A : Option Addr) (c : Nat) (W : World) (hb : Below w1.heap.size w1 W) (hR : Kd.R k58 58 W w1.heap.size (fun _=>True) (.slice A l0.length c) l0) =>
  yAG.with (yAj.p l1) 198 #[.pointer (some ⟨w.heap.size,0,none⟩)] eg A c l0 w1 W hb hR
   (fun W2 x hb2=>yAj.pred A1 c1 l1 w.heap.size w1 HR1.out HC1.out (by have:=HSZ.out;omega) HCA.out W2 x hb2))
 clear ht hr0 hc0 hr1 hc1 eg;go_enter Try.func98,Try.ntmps98
 go_wp2_with fail
 rw [← hw1];refine HT.out.mono ?_;clear HT hw1;rintro e wa ⟨rfl,hb⟩;have HB:=Aside0.mk hb;have hca2:=(hb.cell (p:=⟨w.heap.size,0,none⟩) (by have:=HSZ.out;show w.heap.size < _;omega)).trans HCA.out;clear hb hca;cases t with
 | false =>
  simp only [Bool.false_eq_true,if_false,Option.some.injEq,Prod.mk.injEq] at h;obtain ⟨rfl,rfl⟩:=h;go_wp2;go_ret2
  exact ⟨_,rfl,Kd.R_nil _ _ _ _ _,HW.out.trans (HB.out.mono HW.out.size)⟩
 | true =>
  simp only [if_true] at h;obtain ⟨u,hu,h⟩:=Option.bind_eq_some_iff.mp h;have HU:=Aside0.mk (fun (W : World) (hb : Below w1.heap.size w1 W)=>yAJ.calls k A1 c1 l1 u W (Kd.C_below HR1.out hb) HC1.out hu);clear hu;go_wp2_with fail
  refine MOwn.named ?_;intro wb hWb;have HB1:=Aside0.mk (show Below w1.heap.size w1 wb by subst hWb;repeat (first | (with_reducible first | exact HB.out | apply pw_below_drewN | apply below_drew1) | exact HB.out));clear HB hWb;refine (HU.out wb HB1.out).mono ?_;clear HU;rintro e wc ⟨rfl,hb⟩;have HB:=Aside0.mk (HB1.out.trans (hb.mono HB1.out.size));clear hb HB1;cases u with
  | false =>
   simp only [Bool.false_eq_true,if_false,Option.some.injEq,Prod.mk.injEq] at h;obtain ⟨rfl,rfl⟩:=h;go_wp2;go_ret2
   exact ⟨_,rfl,Kd.R_nil _ _ _ _ _,HW.out.trans (Below.mono (q17_) HW.out.size)⟩
  | true =>
   by_cases hL : l0.length * 32 ≤ 140737488355328
   case neg=>simp [hL] at h
   simp only [if_true,if_pos hL,Option.some.injEq,Prod.mk.injEq] at h;obtain ⟨rfl,rfl⟩:=h;have HCL:=Aside0.mk (show yAk.f l0 = some l0 by rw [yAk.f,if_pos hL]);clear hL;go_wp2_with fail
   refine MOwn.named ?_;intro wd hWd;have HB1:=Aside0.mk (show Below w1.heap.size w1 wd by subst hWd;repeat (first | (with_reducible first | exact HB.out | apply pw_below_drewN | apply below_drew1) | exact HB.out));clear HB hWd;refine (yAk.calls _ c0 l0 l0 wd (Kd.C_below HR0.out HB1.out) HC0.out HCL.out).mono ?_;rintro e we ⟨v,rfl,ho,hb⟩;have HO:=Aside0.mk (Kd.R_lower ho HB1.out.size);have HB:=Aside0.mk (HB1.out.trans (hb.mono HB1.out.size));clear ho hb HB1;obtain ⟨Ao,co,rfl⟩:=Kd.R_slice HO.out;go_wp2_with fail
   refine MOwn.named ?_;intro wf hWf;have HB1:=Aside0.mk (show Below w1.heap.size w1 wf by subst hWf;repeat (first | (with_reducible first | exact HB.out | apply pw_below_drewN | apply below_drew1) | exact HB.out));have HO1:=Aside0.mk (show Kd.R k58 58 wf w1.heap.size (fun _=>True) (.slice Ao l0.length co) l0 by subst hWf;(with_reducible repeat (first | apply Kd.R_drewN | apply Kd.R_drew));exact HO.out);clear HB HO hWf;refine (HTH.out Ao co wf HB1.out HO1.out).mono ?_;rintro e wg ⟨v,rfl,ho,hb⟩;have HO:=Aside0.mk (Kd.R_lower ho HW.out.size);have HB:=Aside0.mk hb;clear ho hb HB1 HO1;go_wp2;go_ret2
   exact ⟨_,rfl,by (with_reducible repeat (first | apply Kd.R_drewN | apply Kd.R_drew));exact HO.out,HW.out.trans (Below.mono (q17_) HW.out.size)⟩
end Go.Proofs.Ytgapcmmhbegdeaa.G
