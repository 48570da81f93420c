-- Written by this session's own program over the kit's print (wip/tools/myprint.py); Lean checks it.
import Derived.Test.YtgapcmmhbegdeaaMBase
import Derived.Test.YtgapcmmhbegdeaaG0
import Derived.Test.YtgapcmmhbegdeaaG1
import Derived.Test.YtgapcmmhbegdeaaG59
import Derived.Test.YtgapcmmhbegdeaaG61
import Derived.Test.YtgapcmmhbegdeaaG62
namespace Go.Proofs.Ytgapcmmhbegdeaa.G
open Go.RowKit Go.Proofs.YtgapcmmhbegdeaaW.PrintWords Go.Proofs.YtgapcmmhbegdeaaW.PrintLast Go.Proofs.YtgapcmmhbegdeaaW.PrintMore
attribute [local go_sem] max2_int min2_int max_two min_two max_three min_three max_four min_four str_geq str_gtr str_leq   -- for this text's walks alone
set_option linter.unusedVariables false
set_option linter.unusedSimpArgs false
/-! ### impl_SolveClashes: function 49 -/
def impl_SolveClashes.RR {α : Type} (d : Kd α) (e : Nat) (w : World) (base lo hi : Nat) (v : Value) (xs : List α) : Prop:=d.R e w base (fun k=>lo ≤ k ∧ k < hi) v xs ∧ hi ≤ w.heap.size
theorem impl_SolveClashes.RR.new {α : Type} {d : Kd α} {e base : Nat} {w1 W : World} {v : Value} {xs : List α} (h : d.R e w1 W.heap.size (fun _=>True) v xs) (hb : base ≤ W.heap.size) : impl_SolveClashes.RR d e w1 base W.heap.size w1.heap.size v xs:=⟨Kd.R_mono (Kd.R_lower (Kd.R_bound h) hb) (fun _ hk=>⟨hk.2.1,hk.2.2.1⟩),Nat.le_refl _⟩
theorem impl_SolveClashes.RR.at {α : Type} {d : Kd α} {e base lo hi : Nat} {w W : World} {v : Value} {xs : List α} (h : impl_SolveClashes.RR d e w base lo hi v xs) (hw : W.heap = w.heap) : impl_SolveClashes.RR d e W base lo hi v xs:=⟨Kd.R_step h.1 (fun k _ _=>by rw [hw]),by rw [hw];exact h.2⟩
theorem impl_SolveClashes.RR.below {α : Type} {d : Kd α} {e base lo hi : Nat} {w w1 : World} {v : Value} {xs : List α} (h : impl_SolveClashes.RR d e w base lo hi v xs) (hb : Below w.heap.size w w1) : impl_SolveClashes.RR d e w1 base lo hi v xs:=⟨Kd.R_below h.1 hb,Nat.le_trans h.2 hb.size⟩
theorem impl_SolveClashes.RR.kept {α : Type} {d : Kd α} {e base lo hi : Nat} {w w1 : World} {v : Value} {xs : List α} {P : Nat → Prop} (h : impl_SolveClashes.RR d e w base lo hi v xs) (hk : Kept w w1 P) (hne : ∀ k,lo ≤ k → k < hi → ¬ P k) : impl_SolveClashes.RR d e w1 base lo hi v xs:=⟨Kd.R_kept h.1 hk (fun k hk=>hne k hk.1 hk.2),Nat.le_trans h.2 hk.1⟩
theorem impl_SolveClashes.RR.form {α : Type} {d : Kd α} {e base lo hi : Nat} {w : World} {v : Value} {xs : List α} (h : impl_SolveClashes.RR d e w base lo hi v xs) : ∃ A c,v = .slice A xs.length c:=Kd.R_slice h.1
theorem impl_SolveClashes.RR.reads {α : Type} {d : Kd α} {e base lo hi : Nat} {w : World} {A : Option Addr} {n c : Nat} {xs : List α} (h : impl_SolveClashes.RR d e w base lo hi (.slice A n c) xs) : n = xs.length ∧ n ≤ c ∧ d.C w A xs.length xs:=Kd.R_reads' h.1
def impl_SolveClashes.late (a1 : Int) (x : S77) : Bool:=decide (x.f3 > a1)
def impl_SolveClashes.step (l0 : List S77) (a1 : Int) : List Int → List S77 → Option (List S77)
 | [],out=>some out
 | i :: is,out=>if impl_freePlace.from out (rd_T77 l0 i).f1 10 < 0 then none else impl_SolveClashes.step l0 a1 is (out.set i.toNat ⟨(rd_T77 out i).f0,(rd_T77 out i).f1,impl_freePlace.from out (rd_T77 l0 i).f1 10,a1⟩)
def impl_SolveClashes.fin (l0 : List S77) (n : Int) : Option (List S77) → List S77 × Int × Bool
 | some o=>(o,n,true)
 | none=>([],0,false)
def impl_SolveClashes.f (k : Nat) (l0 : List S77) (a1 : Int) : Option (List S77 × Int × Bool):=(impl_ArePeople.f k l0).bind fun t=>if t = true ∧ (1800 ≤ a1 ∧ a1 ≤ 2200) ∧ l0.any (impl_SolveClashes.late a1) = false then (if l0.length * 40 ≤ 140737488355328 ∧ l0.length ≤ 17592186044416 then some (impl_SolveClashes.fin l0 ((impl_changes.upto l0 l0.length).length : Int) (impl_SolveClashes.step l0 a1 (impl_changes.upto l0 l0.length) l0)) else none) else some ([],0,false)
theorem impl_SolveClashes.upto_lt (l : List S77) : ∀ (n : Nat) (a : Int),a ∈ impl_changes.upto l n → 0 ≤ a ∧ a < (n : Int)
 | 0,a,h=>by simp [impl_changes.upto] at h
 | n + 1,a,h=>by
  rw [impl_changes.upto] at h
  split at h
  ·rcases List.mem_append.1 h with h | h
   ·have:=impl_SolveClashes.upto_lt l n a h;omega
   ·rw [List.mem_singleton.1 h];omega
  ·have:=impl_SolveClashes.upto_lt l n a h;omega
theorem impl_SolveClashes.win (a b c : Int) : impl_within.f a b c = some (decide (b ≤ a ∧ a ≤ c)):=by
 unfold impl_within.f;by_cases h : a ≥ b
 ·rw [if_pos h];simp [show b ≤ a from h]
 ·rw [if_neg h];simp [show ¬ b ≤ a from h]
theorem impl_SolveClashes.year (a : Int) : impl_isYear.f a = some (decide (1800 ≤ a ∧ a ≤ 2200)):=by
 unfold impl_isYear.f;rw [impl_SolveClashes.win];rfl
set_option maxHeartbeats 4000000 in
set_option maxRecDepth 100000 in
theorem impl_SolveClashes.pred (a1 : Int) (B : Nat) (w : World) (hB : B < w.heap.size) (hb0 : w.cell? ⟨B,0,none⟩ = some (.int .i64 a1)) (W : World) (x : S77) (hb : Below w.heap.size w W) :
  Calls Try.prog 158 (#[.agg #[.string x.f0,.int .i64 x.f1,.int .i64 x.f2,.int .i64 x.f3]] ++ #[.pointer (some ⟨B,0,none⟩)]) W fun e w' => e = .returned (.bool (impl_SolveClashes.late a1 x)) ∧ Below w.heap.size w w' := by
 have hb1 : W.cell? ⟨B,0,none⟩ = some (.int .i64 a1):=(hb.cell (p:=⟨B,0,none⟩) hB).trans hb0;have hBW : B < W.heap.size:=Nat.lt_of_lt_of_le hB hb.size;have hne : B ≠ W.heap.size:=by omega
 have HB:=Aside0.mk hb;clear hb0 hb hB;unfold impl_SolveClashes.late;show Calls Try.prog 158 #[.agg #[.string x.f0,.int .i64 x.f1,.int .i64 x.f2,.int .i64 x.f3],.pointer (some ⟨B,0,none⟩)] W _;go_enter Try.func158,Try.ntmps158
 go_wp2;go_ret;exact ⟨by simp [GT.gt],HB.out.alloc HB.out.size _⟩
set_option maxHeartbeats 8000000 in
set_option maxRecDepth 100000 in
theorem impl_SolveClashes.calls (k : Nat) (A0 : Option Addr) (c0 : Nat) (l0 : List S77) (a1 : Int) (r1 : List S77) (r2 : Int) (r3 : Bool) (w : World) (hr0 : Kd.C k77 w A0 l0.length l0) (hc0 : l0.length ≤ c0) (h : impl_SolveClashes.f k l0 a1 = some (r1,r2,r3)) :
  Calls Try.prog 49 #[.slice A0 l0.length c0,.int .i64 a1] w fun e w' => ∃ v0_ : Value,e = .returned (.tuple #[v0_,.int .i64 r2,.bool r3]) ∧ Kd.R k77 77 w' w.heap.size (fun _=>True) v0_ r1 ∧ Below w.heap.size w w' := by
 have hreg:=MReg.here;clear hreg;obtain ⟨t,ht,h⟩:=Option.bind_eq_some_iff.mp h;have eg : ∀ args w,(callFunc 158 args).run Try.prog w = .ok (.enter 158 args) w:=goes_in Try.func158 (by kernel_rfl) rfl;obtain ⟨w1,hw1⟩ : ∃ w1,w1 = w.alloc (.cells #[.int .i64 a1] 3):=⟨_,rfl⟩;have HW:=Aside0.mk (show Below w.heap.size w w1 by rw [hw1];exact (Below.refl _ w).alloc (Nat.le_refl _) (.cells #[.int .i64 a1] 3));have HSZ:=Aside0.mk (show w1.heap.size = w.heap.size + 1 by rw [hw1];simp);have HCA:=Aside0.mk (show w1.cell? ⟨w.heap.size,0,none⟩ = some (.int .i64 a1) by rw [hw1];simp);have HT:=Aside0.mk (impl_ArePeople.calls k A0 c0 l0 t w1 (Kd.C_below hr0 HW.out) hc0 ht);have HR:=Aside0.mk (Kd.C_below hr0 HW.out);have HL:=Aside0.mk hr0.2.1
 have HTH:=Aside0.mk (fun (W : World) (hb : Below w1.heap.size w1 W) =>
  slices_ContainsFunc_Person.with (impl_SolveClashes.late a1) 158 #[.pointer (some ⟨w.heap.size,0,none⟩)] eg A0 c0 l0 W (Kd.C_below HR.out hb)
   (fun W2 x hb2=>impl_SolveClashes.pred a1 w.heap.size W (Nat.lt_of_lt_of_le (by have:=HSZ.out;omega) hb.size) ((hb.cell (p:=⟨w.heap.size,0,none⟩) (by have:=HSZ.out;show w.heap.size < _;omega)).trans HCA.out) W2 x hb2))
 have HCC:=Aside0.mk hc0;clear ht hr0 hc0 eg;go_enter Try.func49,Try.ntmps49
 go_wp2_with fail
 rw [← hw1];refine HT.out.mono ?_;clear HT hw1;rintro e wa ⟨rfl,hb⟩;have HB:=Aside0.mk hb;have hca:=(hb.cell (p:=⟨w.heap.size,0,none⟩) (by have:=HSZ.out;show w.heap.size < _;omega)).trans HCA.out;clear hb;cases t with
 | false =>
  simp only [Bool.false_eq_true,false_and,if_false,Option.some.injEq,Prod.mk.injEq] at h;obtain ⟨rfl,rfl,rfl⟩:=h;go_wp2;go_ret3
  exact ⟨_,rfl,Kd.R_nil _ _ _ _ _,HW.out.trans (HB.out.mono HW.out.size)⟩
 | true =>
  have H4:=Aside0.mk (impl_SolveClashes.year a1);by_cases h4 : 1800 ≤ a1 ∧ a1 ≤ 2200
  case neg =>
   rw [decide_eq_false h4] at H4;simp only [h4,false_and,and_false,if_false,Option.some.injEq,Prod.mk.injEq] at h;obtain ⟨rfl,rfl,rfl⟩:=h;clear h4;go_wp2_with (go_at_call 156;(with_reducible refine (impl_isYear.calls _ _ _ H4.out).mono ?_);rintro e wb ⟨rfl,⟨nd,rfl⟩⟩)
   go_ret3
   exact ⟨_,rfl,Kd.R_nil _ _ _ _ _,HW.out.trans (Below.mono (q16_) HW.out.size)⟩
  rw [decide_eq_true h4] at H4;simp only [h4,true_and,and_self] at h;clear h4;go_wp2_with (go_at_call 156;(with_reducible refine (impl_isYear.calls _ _ _ H4.out).mono ?_);rintro e wb ⟨rfl,⟨nd,rfl⟩⟩)
  refine MOwn.named ?_;intro wb hWb;have HB1:=Aside0.mk (show Below w1.heap.size w1 wb by subst hWb;repeat (first | (with_reducible first | exact HB.out | apply pw_below_drewN | apply below_drew1) | exact HB.out));clear HB hWb;refine (HTH.out wb HB1.out).mono ?_;rintro e wc ⟨rfl,hb⟩;have HB:=Aside0.mk (HB1.out.trans (hb.mono HB1.out.size));clear hb HB1;cases hq : l0.any (impl_SolveClashes.late a1) with
  | true =>
   simp only [hq,Bool.true_eq_false,if_false,Option.some.injEq,Prod.mk.injEq] at h;obtain ⟨rfl,rfl,rfl⟩:=h;clear hq;go_wp2;go_ret3
   exact ⟨_,rfl,Kd.R_nil _ _ _ _ _,HW.out.trans (HB.out.mono HW.out.size)⟩
  | false =>
   by_cases hLL : l0.length * 40 ≤ 140737488355328 ∧ l0.length ≤ 17592186044416
   case neg=>simp [hq,hLL] at h
   simp only [hq,if_true,if_pos hLL,Option.some.injEq] at h;have HFIN:=Aside0.mk h;have HCL:=Aside0.mk (show slices_Clone_Person.f l0 = some l0 by rw [slices_Clone_Person.f,if_pos hLL.1]);have HCH:=Aside0.mk (show impl_changes.f l0 = some (impl_changes.upto l0 l0.length) by rw [impl_changes.f,if_pos hLL.2]);have HLIM:=Aside0.mk hLL.2;clear hq hLL h;obtain ⟨L,hL⟩ : ∃ L,L = impl_changes.upto l0 l0.length:=⟨_,rfl⟩;have HIN:=Aside0.mk (show ∀ a,a ∈ L → 0 ≤ a ∧ a < (l0.length : Int) by rw [hL];exact impl_SolveClashes.upto_lt l0 l0.length);have HLL:=Aside0.mk (show L.length ≤ l0.length by rw [hL];exact impl_changes.upto_length l0 l0.length);rw [← hL] at HFIN HCH;clear hL;go_wp2_with fail
   refine MOwn.named ?_;intro wd hWd;have HB1:=Aside0.mk (show Below w1.heap.size w1 wd by subst hWd;repeat (first | (with_reducible first | exact HB.out | apply pw_below_drewN | apply below_drew1) | exact HB.out));clear HB hWd;refine (slices_Clone_Person.calls _ c0 l0 l0 wd (Kd.C_below HR.out HB1.out) HCC.out HCL.out).mono ?_;rintro e we ⟨v,rfl,ho,hb⟩;have hbd : w1.heap.size ≤ wd.heap.size:=HB1.out.size;have HO:=Aside0.mk (impl_SolveClashes.RR.new (base:=w1.heap.size) ho hbd);have HB:=Aside0.mk (HB1.out.trans (hb.mono HB1.out.size));clear ho hb HB1;obtain ⟨Ao,co,rfl⟩:=(impl_SolveClashes.RR.form HO.out);obtain ⟨lo,hlo⟩ : ∃ z,wd.heap.size = z:=⟨_,rfl⟩;obtain ⟨hi,hhi⟩ : ∃ z,we.heap.size = z:=⟨_,rfl⟩;rw [hlo,hhi] at HO;rw [hlo] at hbd;have HLO:=Aside0.mk hbd;clear hlo hhi hbd;go_wp2_with fail
   refine MOwn.named ?_;intro wf hWf;have HB1:=Aside0.mk (show Below w1.heap.size w1 wf by subst hWf;repeat (first | (with_reducible first | exact HB.out | apply pw_below_drewN | apply below_drew1) | exact HB.out));have HO1:=Aside0.mk (impl_SolveClashes.RR.at (W:=wf) HO.out (by subst hWf;rfl));clear HB hWf HO;refine (impl_changes.calls _ c0 l0 L wf (Kd.C_below HR.out HB1.out) HCC.out HCH.out).mono ?_;rintro e wg ⟨v,rfl,ho,hb⟩;have HM:=Aside0.mk (impl_SolveClashes.RR.new (base:=w1.heap.size) ho HB1.out.size);have HSEP:=Aside0.mk HO1.out.2;have HO:=Aside0.mk (impl_SolveClashes.RR.below HO1.out hb);have HB:=Aside0.mk (HB1.out.trans (hb.mono HB1.out.size));clear ho hb HB1 HO1;obtain ⟨Am,cm,rfl⟩:=(impl_SolveClashes.RR.form HM.out);obtain ⟨ml,hml⟩ : ∃ z,wf.heap.size = z:=⟨_,rfl⟩;obtain ⟨mh,hmh⟩ : ∃ z,wg.heap.size = z:=⟨_,rfl⟩;rw [hml,hmh] at HM;rw [hml] at HSEP;clear hml hmh;go_wp2;go_loopg [29] L.length (fun gg s29 wr=>∃ (x : Int) (out : List S77),s29 = .int .i64 x ∧ Aside0 (0 ≤ x ∧ x ≤ (L.length : Int) ∧ (L.length : Int) - x ≤ (gg : Int)) ∧ Aside0 (out.length = l0.length ∧ impl_SolveClashes.step l0 a1 (L.drop x.toNat) out = impl_SolveClashes.step l0 a1 L l0) ∧ Aside0 (impl_SolveClashes.RR k77 77 wr w1.heap.size lo hi (.slice Ao l0.length co) out) ∧ Aside0 (impl_SolveClashes.RR (Kd.int .i64) 3 wr w1.heap.size ml mh (.slice Am L.length cm) L) ∧ Aside0 (Below w1.heap.size w1 wr))
   case atStart=>exact ⟨0,l0,rfl,⟨by omega⟩,⟨rfl,rfl⟩,⟨HO.out⟩,⟨HM.out⟩,⟨HB.out⟩⟩
   case round =>
    clear HO HM HB;obtain ⟨x,out,rfl,HX,HS,HO,HM,HB⟩:=hrel;by_cases hlt : x < (L.length : Int)
    ·have p1 : 0 ≤ x:=HX.out.1;have q1:=hlt;have hw : wrap64 (x + 1) = x + 1:=by have:=HLIM.out;have:=HLL.out;unfold wrap64;omega
     have HWR:=Aside0.mk hw;have HLT:=Aside0.mk hlt;obtain ⟨i,hdr⟩ : ∃ y,L.drop x.toNat = y :: L.drop (x.toNat + 1):=⟨_,List.drop_eq_getElem_cons (show x.toNat < L.length by omega)⟩
     have hgi : L.getD x.toNat 0 = i:=by
      have h2:=congrArg (fun l=>l.getD 0 0) hdr
      simpa [List.getD_eq_getElem?_getD,List.getElem?_drop] using h2
     have hii:=HIN.out i (List.mem_of_mem_drop (by rw [hdr];exact List.mem_cons_self));have HDR:=Aside0.mk hdr;obtain ⟨gm,capm,hem,_,_,_,_⟩:=Kd.R_form HM.out.1 (by omega);obtain ⟨rfl,-,-⟩:=Value.slice.inj hem;obtain ⟨go,capo,heo,hgo,_,_,_⟩:=Kd.R_form HO.out.1 (by have:=HS.out.1;omega);obtain ⟨rfl,-,-⟩:=Value.slice.inj heo;obtain ⟨ce,_,hM,hcc,_⟩:=Kd.R_elem HM.out.1 (0 : Int) x p1 q1;rw [hgi] at hM;obtain rfl : ce = [.int .i64 i]:=hM;have hx1:=hcc 0 _ rfl;simp only [show (Kd.int .i64).sz = 1 from rfl,Nat.mul_one,Nat.add_zero] at hx1;obtain ⟨ad,e,hx0,hx1,hx2,hx3⟩:=at_T77 (Kd.C_below HR.out HB.out) i hii.1 hii.2;cases e;have HII:=Aside0.mk hii;have p2:=eq_true hii.1;have q2:=eq_true hii.2;have HGO:=Aside0.mk hgo;have HGR:=Aside0.mk (HO.out.1.1 go rfl);have hcy:=(HB.out.cell (p:=⟨w.heap.size,0,none⟩) (by have:=HSZ.out;show w.heap.size < _;omega)).trans HCA.out;obtain ⟨pl,hpl⟩ : ∃ z,impl_freePlace.from out (rd_T77 l0 i).f1 10 = z:=⟨_,rfl⟩
     have HPL:=Aside0.mk hpl;have b1 : decide (x < (L.length : Int)) = true:=decide_eq_true hlt;clear hlt hdr hgi hii hem heo hcc hgo hpl hw;replace p1:=eq_true p1;replace q1:=eq_true q1;go_wp2_with fail
     refine MOwn.named ?_;intro wa hWa;have HB1:=Aside0.mk (show Below w1.heap.size w1 wa by subst hWa;repeat (first | (with_reducible first | exact HB.out | apply pw_below_drewN | apply below_drew1) | exact HB.out));have HO1:=Aside0.mk (impl_SolveClashes.RR.at (W:=wa) HO.out (by subst hWa;rfl));have HM1:=Aside0.mk (impl_SolveClashes.RR.at (W:=wa) HM.out (by subst hWa;rfl));clear HB HO HM hWa;have hfp:=impl_freePlace.calls (some ⟨go,0,none⟩) co out (rd_T77 l0 i).f1 pl wa (impl_SolveClashes.RR.reads HO1.out).2.2 (by have:=(impl_SolveClashes.RR.reads HO1.out);omega) (by unfold impl_freePlace.f;rw [HPL.out]);rw [HS.out.1] at hfp;refine hfp.mono ?_;clear hfp;rintro e wb ⟨rfl,hb⟩;have HB:=Aside0.mk (HB1.out.trans (hb.mono HB1.out.size));have HO:=Aside0.mk (impl_SolveClashes.RR.below HO1.out hb);have HM:=Aside0.mk (impl_SolveClashes.RR.below HM1.out hb);clear hb HB1 HO1 HM1;by_cases hneg : pl < 0
     ·have HF2:=HFIN.out;rw [← HS.out.2,HDR.out,impl_SolveClashes.step,if_pos (by rw [HPL.out];exact hneg),impl_SolveClashes.fin] at HF2;simp only [Prod.mk.injEq] at HF2;obtain ⟨rfl,rfl,rfl⟩:=HF2;have b2 : decide (pl < 0) = true:=decide_eq_true hneg;go_wp2;go_ret3
      exact ⟨_,rfl,Kd.R_nil _ _ _ _ _,HW.out.trans (Below.mono (q16_) HW.out.size)⟩
     ·have b2 : decide (pl < 0) = false:=decide_eq_false hneg;have HNEG:=Aside0.mk hneg;clear hneg;have hcy2:=(HB.out.cell (p:=⟨w.heap.size,0,none⟩) (by have:=HSZ.out;show w.heap.size < _;omega)).trans HCA.out;have hne1 : w.heap.size ≠ go:=by have:=HSZ.out;have:=HGO.out;omega
      obtain ⟨ce,hcl,hM,hcc,hfr⟩:=Kd.R_elem HO.out.1 z77 i HII.out.1 HII.out.2;obtain rfl:=k77_openM hM;have hy2 : wb.cell? ⟨go,i.toNat * 4 + 2,none⟩ = some (.int .i64 (rd_T77 out i).f2):=hcc 2 _ rfl;have hy3 : wb.cell? ⟨go,i.toNat * 4 + 3,none⟩ = some (.int .i64 (rd_T77 out i).f3):=hcc 3 _ rfl;have hf2 : wb.frozen? ⟨go,i.toNat * 4 + 2,none⟩ = false:=hfr 2;have hf3 : wb.frozen? ⟨go,i.toNat * 4 + 3,none⟩ = false:=hfr 3;clear hcl hM hcc hfr;go_wp2_with fail
      go_region
      have step : ∀ (W : World) (xs : List S77) (y : S77),Kd.R k77 77 W w1.heap.size (fun k=>lo ≤ k ∧ k < hi) (.slice (some ⟨go,0,none⟩) l0.length co) xs → xs.getD i.toNat z77 = y →
        Kd.R k77 77 (W.setCell ⟨go,i.toNat * 4 + 2,none⟩ (.int .i64 pl)) w1.heap.size (fun k=>lo ≤ k ∧ k < hi) (.slice (some ⟨go,0,none⟩) l0.length co) (xs.set i.toNat ⟨y.f0,y.f1,pl,y.f3⟩) ∧ Kd.R k77 77 (W.setCell ⟨go,i.toNat * 4 + 3,none⟩ (.int .i64 a1)) w1.heap.size (fun k=>lo ≤ k ∧ k < hi) (.slice (some ⟨go,0,none⟩) l0.length co) (xs.set i.toNat ⟨y.f0,y.f1,y.f2,a1⟩):=by
       intro W xs y hR hy;obtain ⟨ce,hcl,hM,hcc,_⟩:=Kd.R_elem hR z77 i HII.out.1 HII.out.2;rw [hy] at hM;obtain rfl:=k77_openM hM
       exact ⟨(Kd.R_seg hR i HII.out.1 HII.out.2 (seg:=[.int .i64 pl]) (j:=2) hcl hcc (show 2 + 1 ≤ 4 by decide) (x' := (⟨y.f0,y.f1,pl,y.f3⟩ : S77)) (k77_mkM _ _ _ (⟨y.f0,y.f1,pl,y.f3⟩ : S77)) (fun _ hk=>hk)).1,
        (Kd.R_seg hR i HII.out.1 HII.out.2 (seg:=[.int .i64 a1]) (j:=3) hcl hcc (show 3 + 1 ≤ 4 by decide) (x' := (⟨y.f0,y.f1,y.f2,a1⟩ : S77)) (k77_mkM _ _ _ (⟨y.f0,y.f1,y.f2,a1⟩ : S77)) (fun _ hk=>hk)).1⟩
      have hlt : i.toNat < out.length:=by have:=HII.out;have:=HS.out.1;omega
      have z2:=(step wb out (rd_T77 out i) HO.out.1 rfl).1;have z3:=(step _ _ ⟨(rd_T77 out i).f0,(rd_T77 out i).f1,pl,(rd_T77 out i).f3⟩ z2 (by rw [List.getD_eq_getElem?_getD,List.getElem?_set_self hlt];rfl)).2;rw [List.set_set] at z3;have HB2:=Aside0.mk (below_set (below_set HB.out HGO.out) HGO.out : Below w1.heap.size w1 ((wb.setCell ⟨go,i.toNat * 4 + 2,none⟩ (.int .i64 pl)).setCell ⟨go,i.toNat * 4 + 3,none⟩ (.int .i64 a1)));have HSW:=Aside0.mk (show wb.heap.size ≤ ((wb.setCell ⟨go,i.toNat * 4 + 2,none⟩ (.int .i64 pl)).setCell ⟨go,i.toNat * 4 + 3,none⟩ (.int .i64 a1)).heap.size by simp [World.setCell]);have HM2:=Aside0.mk (impl_SolveClashes.RR.kept HM.out (((Kept.refl wb (fun k=>k = go)).setCell (p:=⟨go,i.toNat * 4 + 2,none⟩) (.inl rfl) (.int .i64 pl)).setCell (p:=⟨go,i.toNat * 4 + 3,none⟩) (.inl rfl) (.int .i64 a1)) (fun k hk _ he=>by have:=HGR.out;have:=HSEP.out;omega));have HZ:=Aside0.mk (show impl_SolveClashes.RR k77 77 ((wb.setCell ⟨go,i.toNat * 4 + 2,none⟩ (.int .i64 pl)).setCell ⟨go,i.toNat * 4 + 3,none⟩ (.int .i64 a1)) w1.heap.size lo hi (.slice (some ⟨go,0,none⟩) l0.length co) _ from ⟨z3,Nat.le_trans HO.out.2 HSW.out⟩);clear step z2 z3 hlt hy2 hy3 hf2 hf3 hcy2 HB HO HM HSW;generalize ((wb.setCell ⟨go,i.toNat * 4 + 2,none⟩ (.int .i64 pl)).setCell ⟨go,i.toNat * 4 + 3,none⟩ (.int .i64 a1)) = wz at HZ HM2 HB2 ⊢;go_wp2;go_roundg (L.length - (x.toNat + 1))
      case measure=>have:=HX.out;have:=HLT.out;omega
      case rel =>
       have hx:=HX.out;have hl:=HLT.out;have hn : (x + 1).toNat = x.toNat + 1:=by omega
       refine ⟨x + 1,_,by first | rfl | (rw [HWR.out]) | (simp [HWR.out]),⟨by omega⟩,⟨?_,?_⟩,⟨HZ.out.at rfl⟩,⟨HM2.out.at rfl⟩,⟨by repeat (first | (with_reducible first | exact HB2.out | apply pw_below_drewN | apply below_drew1) | exact HB2.out)⟩⟩
       ·rw [List.length_set];exact HS.out.1
       ·rw [← HS.out.2,HDR.out,impl_SolveClashes.step,if_neg (by rw [HPL.out];have:=HNEG.out;omega),HPL.out,hn]
    ·have b1 : decide (x < (L.length : Int)) = false:=decide_eq_false hlt;have hx : x.toNat = L.length:=by have:=HX.out;omega
     have HF2:=HFIN.out;rw [← HS.out.2,hx,List.drop_length,impl_SolveClashes.step,impl_SolveClashes.fin] at HF2;simp only [Prod.mk.injEq] at HF2;obtain ⟨rfl,rfl,rfl⟩:=HF2;clear hlt hx HS HM;go_wp2_with fail
     refine MOwn.named ?_;intro wa hWa;have HB1:=Aside0.mk (show Below w1.heap.size w1 wa by subst hWa;repeat (first | (with_reducible first | exact HB.out | apply pw_below_drewN | apply below_drew1) | exact HB.out));have HO1:=Aside0.mk (impl_SolveClashes.RR.at (W:=wa) HO.out (by subst hWa;rfl));clear HB HO hWa;refine (impl_changes.calls _ c0 l0 L wa (Kd.C_below HR.out HB1.out) HCC.out HCH.out).mono ?_;rintro e wb ⟨v,rfl,ho,hb⟩;have HB:=Aside0.mk (HB1.out.trans (hb.mono HB1.out.size));have HO:=Aside0.mk (impl_SolveClashes.RR.below HO1.out hb);obtain ⟨An,cn,rfl⟩:=Kd.R_slice ho;clear ho hb HB1 HO1;go_wp2;go_ret3
     exact ⟨_,rfl,by (with_reducible repeat (first | apply Kd.R_drewN | apply Kd.R_drew));exact Kd.R_mono (Kd.R_lower HO.out.1 HW.out.size) (fun _ _=>trivial),HW.out.trans (Below.mono (q16_) HW.out.size)⟩
/-! ### spec_naYear: function 163 -/
def spec_naYear.f (a0 : Int) : Option (Bool):=(spec_l1In.f a0 1800 2200).bind fun t101=>(some t101)
set_option maxHeartbeats 8000000 in
set_option maxRecDepth 100000 in
theorem spec_naYear.calls (a0 : Int) (r : Bool) (w : World) (h : spec_naYear.f a0 = some r) :
  Calls Try.prog 163 #[.int .i64 a0] w fun e w' => e = .returned (.bool r) ∧ Drawn0 w w' := by
 have H : ((spec_l1In.f a0 1800 2200).bind fun t101=>(some t101)) = some r:=h;clear h;replace H:=Option.bind_eq_some_iff.mp H;obtain ⟨t101,A20,H⟩:=H;(try dsimp only at H);have A2:=Aside0.mk A20;clear A20;obtain rfl:=Option.some.inj H;go_enter Try.func163,Try.ntmps163
 go_wp2_with (first | ((with_reducible refine gate_callee (f:=146) rfl ?_);refine goesL_ (some 4) rfl rfl Try.func146 (by kernel_rfl) rfl #[.int .i64 a0,.int .i64 1800,.int .i64 2200] rfl (q22_) ?_;(with_reducible refine (spec_l1In.calls a0 1800 2200 t101 _ A2.out).mono ?_);rintro e w' ⟨rfl,⟨nd,rfl⟩⟩;refine ⟨_,rfl,?_⟩))
 go_ret;exact ⟨q1_,q3_⟩
/-! ### spec_naName: function 171 -/
def spec_naName.l0 : Nat → ByteArray → Int → Option (Bool)
 | 0,_,_=>none
 | k + 1,x0,x3=>if x3 < (x0.size : Int) then (if 0 ≤ x3 then (if (bt x0 x3) < 97 then (some false) else (if (bt x0 x3) > 122 then (some false) else (spec_naName.l0 k x0 (wrap64 (x3 + 1))))) else (none)) else ((spec_l1In.f (x0.size : Int) 1 8).bind fun t101=>(some t101))
def spec_naName.f (k : Nat) (a0 : ByteArray) : Option (Bool):=spec_naName.l0 k a0 0
set_option maxHeartbeats 8000000 in
set_option maxRecDepth 100000 in
theorem spec_naName.calls (k : Nat) (a0 : ByteArray) (r : Bool) (w : World) (h : spec_naName.f k a0 = some r) :
  Calls Try.prog 171 #[.string a0] w fun e w' => e = .returned (.bool r) ∧ Drawn0 w w' := by
 have H : (spec_naName.l0 k a0 0) = some r:=h;clear h;have H' := Aside0.mk H;clear H;go_enter Try.func171,Try.ntmps171
 go_wp2;go_loopg [3] k (fun kq v3 w' => ∃ (x3_1 : Int),v3 = .int .i64 x3_1 ∧ Aside0 (spec_naName.l0 kq a0 x3_1 = some r) ∧ Aside0 (kq ≤ k) ∧ Drawn0 w w')
 case atStart=>exact ⟨(0),(q1_),H', ⟨Nat.le_refl _⟩,q3_⟩
 case round =>
  clear H';obtain ⟨x3_1,rfl,HA,HK1,⟨m1,rfl⟩⟩:=hrel;cases gk with
  | zero=>exact absurd HA.out (by simp [spec_naName.l0])
  | succ k1 =>
   have H:=HA.out;clear HA;simp only [spec_naName.l0] at H;by_cases c2 : x3_1 < (a0.size : Int)
   ·rw [if_pos c2] at H;have c2b0 : decide (x3_1 < (a0.size : Int)) = true:=decide_eq_true c2;clear c2;by_cases c3 : 0 ≤ x3_1
    ·rw [if_pos c3] at H;have c3b0 : decide (0 ≤ x3_1) = true:=decide_eq_true c3;clear c3;by_cases c5 : (bt a0 x3_1) < 97
     ·rw [if_pos c5] at H;have c5b0 : decide ((bt a0 x3_1) < 97) = true:=decide_eq_true c5;clear c5;obtain rfl:=Option.some.inj H;have p4 : 0 ≤ (x3_1 : Int):=of_decide_eq_true (q2_);have q4 : x3_1 < (a0.size : Int):=of_decide_eq_true (q2_);have hx4:=bt_at a0 x3_1;replace p4:=eq_true p4;replace q4:=eq_true q4;go_wp2;go_ret;exact ⟨q1_,q3_⟩
     ·rw [if_neg c5] at H;have c5b0 : decide ((bt a0 x3_1) < 97) = false:=decide_eq_false c5;clear c5;by_cases c7 : (bt a0 x3_1) > 122
      ·rw [if_pos c7] at H;have c7b0 : decide (122 < (bt a0 x3_1)) = true:=decide_eq_true c7;clear c7;obtain rfl:=Option.some.inj H;have p4 : 0 ≤ (x3_1 : Int):=of_decide_eq_true (q2_);have q4 : x3_1 < (a0.size : Int):=of_decide_eq_true (q2_);have hx4:=bt_at a0 x3_1;replace p4:=eq_true p4;replace q4:=eq_true q4;have p6 : 0 ≤ (x3_1 : Int):=of_decide_eq_true (q2_);have q6 : x3_1 < (a0.size : Int):=of_decide_eq_true (q2_);have hx6:=bt_at a0 x3_1;replace p6:=eq_true p6;replace q6:=eq_true q6;go_wp2;go_ret;exact ⟨q1_,q3_⟩
      ·rw [if_neg c7] at H;have c7b0 : decide (122 < (bt a0 x3_1)) = false:=decide_eq_false c7;clear c7;have H' := Aside0.mk H;clear H;have p4 : 0 ≤ (x3_1 : Int):=of_decide_eq_true (q2_);have q4 : x3_1 < (a0.size : Int):=of_decide_eq_true (q2_);have hx4:=bt_at a0 x3_1;replace p4:=eq_true p4;replace q4:=eq_true q4;have p6 : 0 ≤ (x3_1 : Int):=of_decide_eq_true (q2_);have q6 : x3_1 < (a0.size : Int):=of_decide_eq_true (q2_);have hx6:=bt_at a0 x3_1;replace p6:=eq_true p6;replace q6:=eq_true q6;go_wp2;go_roundg k1
       case measure=>have:=HK1.out;omega
       case rel=>exact ⟨(wrap64 (x3_1 + 1)),(q1_),H', ⟨by have:=HK1.out;omega⟩,q3_⟩
    ·rw [if_neg c3] at H;exact absurd H (by simp)
   ·rw [if_neg c2] at H;have c2b0 : decide (x3_1 < (a0.size : Int)) = false:=decide_eq_false c2;clear c2;replace H:=Option.bind_eq_some_iff.mp H;obtain ⟨t101,A80,H⟩:=H;(try dsimp only at H);have A8:=Aside0.mk A80;clear A80;obtain rfl:=Option.some.inj H;go_wp2_with (first | ((with_reducible refine gate_callee (f:=146) rfl ?_);refine goesL_ (some 22) rfl rfl Try.func146 (by kernel_rfl) rfl #[.int .i64 (a0.size : Int),.int .i64 1,.int .i64 8] rfl (q22_) ?_;(with_reducible refine (spec_l1In.calls (a0.size : Int) 1 8 t101 _ A8.out).mono ?_);rintro e w' ⟨rfl,⟨nd,rfl⟩⟩;refine ⟨_,rfl,?_⟩))
    go_ret;exact ⟨q1_,q3_⟩
/-! ### spec_naLetter: function 172 -/
def spec_naLetter.f (a0 : Int) : Option (Bool):=(spec_l1In.f a0 0 25).bind fun t101=>(some t101)
set_option maxHeartbeats 8000000 in
set_option maxRecDepth 100000 in
theorem spec_naLetter.calls (a0 : Int) (r : Bool) (w : World) (h : spec_naLetter.f a0 = some r) :
  Calls Try.prog 172 #[.int .i64 a0] w fun e w' => e = .returned (.bool r) ∧ Drawn0 w w' := by
 have H : ((spec_l1In.f a0 0 25).bind fun t101=>(some t101)) = some r:=h;clear h;replace H:=Option.bind_eq_some_iff.mp H;obtain ⟨t101,A20,H⟩:=H;(try dsimp only at H);have A2:=Aside0.mk A20;clear A20;obtain rfl:=Option.some.inj H;go_enter Try.func172,Try.ntmps172
 go_wp2_with (first | ((with_reducible refine gate_callee (f:=146) rfl ?_);refine goesL_ (some 4) rfl rfl Try.func146 (by kernel_rfl) rfl #[.int .i64 a0,.int .i64 0,.int .i64 25] rfl (q22_) ?_;(with_reducible refine (spec_l1In.calls a0 0 25 t101 _ A2.out).mono ?_);rintro e w' ⟨rfl,⟨nd,rfl⟩⟩;refine ⟨_,rfl,?_⟩))
 go_ret;exact ⟨q1_,q3_⟩
/-! ### spec_naPlace: function 179 -/
def spec_naPlace.f (a0 : Int) : Option (Bool):=(spec_l1In.f a0 0 9).bind fun t101=>(some t101)
set_option maxHeartbeats 8000000 in
set_option maxRecDepth 100000 in
theorem spec_naPlace.calls (a0 : Int) (r : Bool) (w : World) (h : spec_naPlace.f a0 = some r) :
  Calls Try.prog 179 #[.int .i64 a0] w fun e w' => e = .returned (.bool r) ∧ Drawn0 w w' := by
 have H : ((spec_l1In.f a0 0 9).bind fun t101=>(some t101)) = some r:=h;clear h;replace H:=Option.bind_eq_some_iff.mp H;obtain ⟨t101,A20,H⟩:=H;(try dsimp only at H);have A2:=Aside0.mk A20;clear A20;obtain rfl:=Option.some.inj H;go_enter Try.func179,Try.ntmps179
 go_wp2_with (first | ((with_reducible refine gate_callee (f:=146) rfl ?_);refine goesL_ (some 4) rfl rfl Try.func146 (by kernel_rfl) rfl #[.int .i64 a0,.int .i64 0,.int .i64 9] rfl (q22_) ?_;(with_reducible refine (spec_l1In.calls a0 0 9 t101 _ A2.out).mono ?_);rintro e w' ⟨rfl,⟨nd,rfl⟩⟩;refine ⟨_,rfl,?_⟩))
 go_ret;exact ⟨q1_,q3_⟩
/-! ### spec_naOne: function 238 -/
def spec_naOne.f (k : Nat) (a0_0 : ByteArray) (a0_1 : Int) (a0_2 : Int) (a0_3 : Int) : Option (Bool):=(spec_naName.f k a0_0).bind fun t102=>(if t102 = true then ((spec_naLetter.f a0_1).bind fun t103=>(if t103 = true then ((spec_naPlace.f a0_2).bind fun t104=>(if t104 = true then ((spec_naYear.f a0_3).bind fun t105=>(some t105)) else (some false))) else (some false))) else (some false))
set_option maxHeartbeats 8000000 in
set_option maxRecDepth 100000 in
theorem spec_naOne.calls (k : Nat) (a0_0 : ByteArray) (a0_1 : Int) (a0_2 : Int) (a0_3 : Int) (r : Bool) (w : World) (h : spec_naOne.f k a0_0 a0_1 a0_2 a0_3 = some r) :
  Calls Try.prog 238 #[.agg #[.string a0_0,.int .i64 a0_1,.int .i64 a0_2,.int .i64 a0_3]] w fun e w' => e = .returned (.bool r) ∧ Below w.heap.size w w' := by
 have hu77:=Try.underlying77;have HB:=Aside0.mk (Below.refl w.heap.size w);have H : ((spec_naName.f k a0_0).bind fun t102=>(if t102 = true then ((spec_naLetter.f a0_1).bind fun t103=>(if t103 = true then ((spec_naPlace.f a0_2).bind fun t104=>(if t104 = true then ((spec_naYear.f a0_3).bind fun t105=>(some t105)) else (some false))) else (some false))) else (some false))) = some r:=h;clear h;replace H:=Option.bind_eq_some_iff.mp H;obtain ⟨t102,A20,H⟩:=H;(try dsimp only at H);have A2:=Aside0.mk A20;clear A20;by_cases c3 : t102 = true
 ·subst c3;have H1 : ((spec_naLetter.f a0_1).bind fun t103=>(if t103 = true then ((spec_naPlace.f a0_2).bind fun t104=>(if t104 = true then ((spec_naYear.f a0_3).bind fun t105=>(some t105)) else (some false))) else (some false))) = some r:=by rw [if_pos rfl] at H;exact H
  clear H;have H:=H1;clear H1;replace H:=Option.bind_eq_some_iff.mp H;obtain ⟨t103,A40,H⟩:=H;(try dsimp only at H);have A4:=Aside0.mk A40;clear A40;by_cases c5 : t103 = true
  ·subst c5;have H1 : ((spec_naPlace.f a0_2).bind fun t104=>(if t104 = true then ((spec_naYear.f a0_3).bind fun t105=>(some t105)) else (some false))) = some r:=by rw [if_pos rfl] at H;exact H
   clear H;have H:=H1;clear H1;replace H:=Option.bind_eq_some_iff.mp H;obtain ⟨t104,A60,H⟩:=H;(try dsimp only at H);have A6:=Aside0.mk A60;clear A60;by_cases c7 : t104 = true
   ·subst c7;have H1 : ((spec_naYear.f a0_3).bind fun t105=>(some t105)) = some r:=by rw [if_pos rfl] at H;exact H
    clear H;have H:=H1;clear H1;replace H:=Option.bind_eq_some_iff.mp H;obtain ⟨t105,A80,H⟩:=H;(try dsimp only at H);have A8:=Aside0.mk A80;clear A80;obtain rfl:=Option.some.inj H;go_enter Try.func238,Try.ntmps238
    go_wp2_with (first | ((with_reducible refine gate_dst (N:=1) rfl ?_);refine box_event ?hg (N:=1) ?hd (cs:=#[.string a0_0,.int .i64 a0_1,.int .i64 a0_2,.int .i64 a0_3]) (t:=77) ?hr ?_;(case hd=>rfl);(case hg=>rfl);(case hr=>first | (go_simp;done) | (go_simp;rfl));intro gb101 hg w9 hbox hb;have BK101:=Aside0.mk (hbox);have GW101:=Aside0.mk ((q49_ : w.heap.size ≤ gb101));have GE101:=Aside0.mk ((q49_ : w.heap.size ≤ gb101));replace HB:=bS_ HB hb;clear hb hbox hg;have hcz10_0 : w9.cell? ⟨gb101,0,none⟩ = some (.string a0_0):=(blk_cell BK101.out 0).trans rfl;have hcz10_1 : w9.cell? ⟨gb101,1,none⟩ = some (.int .i64 a0_1):=(blk_cell BK101.out 1).trans rfl;have hcz10_2 : w9.cell? ⟨gb101,2,none⟩ = some (.int .i64 a0_2):=(blk_cell BK101.out 2).trans rfl;have hcz10_3 : w9.cell? ⟨gb101,3,none⟩ = some (.int .i64 a0_3):=(blk_cell BK101.out 3).trans rfl;have hfz10_0:=blk_frozen BK101.out 0;have hfz10_1:=blk_frozen BK101.out 1;have hfz10_2:=blk_frozen BK101.out 2;have hfz10_3:=blk_frozen BK101.out 3) | ((with_reducible refine gate_callee (f:=171) rfl ?_);refine goesL_ (some 5) rfl rfl Try.func171 (by kernel_rfl) rfl #[.string a0_0] rfl (q22_) ?_;(with_reducible refine (spec_naName.calls k a0_0 true _ A2.out).mono ?_);rintro e w' ⟨rfl,⟨nd,rfl⟩⟩;refine ⟨_,rfl,?_⟩) | (go_at_call 172;(with_reducible refine (spec_naLetter.calls a0_1 true _ A4.out).mono ?_);rintro e w' ⟨rfl,⟨nd,rfl⟩⟩) | (go_at_call 179;(with_reducible refine (spec_naPlace.calls a0_2 true _ A6.out).mono ?_);rintro e w' ⟨rfl,⟨nd,rfl⟩⟩) | (go_at_call 163;(with_reducible refine (spec_naYear.calls a0_3 t105 _ A8.out).mono ?_);rintro e w' ⟨rfl,⟨nd,rfl⟩⟩))
    go_ret;exact ⟨q4_,q26_⟩
   ·replace c7:=Bool.eq_false_iff.mpr c7;subst c7;have H1 : (some false) = some r:=by rw [if_neg (show ¬ (false = true) by decide)] at H;exact H
    clear H;have H:=H1;clear H1;obtain rfl:=Option.some.inj H;go_enter Try.func238,Try.ntmps238
    go_wp2_with (first | ((with_reducible refine gate_dst (N:=1) rfl ?_);refine box_event ?hg (N:=1) ?hd (cs:=#[.string a0_0,.int .i64 a0_1,.int .i64 a0_2,.int .i64 a0_3]) (t:=77) ?hr ?_;(case hd=>rfl);(case hg=>rfl);(case hr=>first | (go_simp;done) | (go_simp;rfl));intro gb101 hg w11 hbox hb;have BK101:=Aside0.mk (hbox);have GW101:=Aside0.mk ((q49_ : w.heap.size ≤ gb101));have GE101:=Aside0.mk ((q49_ : w.heap.size ≤ gb101));replace HB:=bS_ HB hb;clear hb hbox hg;have hcz12_0 : w11.cell? ⟨gb101,0,none⟩ = some (.string a0_0):=(blk_cell BK101.out 0).trans rfl;have hcz12_1 : w11.cell? ⟨gb101,1,none⟩ = some (.int .i64 a0_1):=(blk_cell BK101.out 1).trans rfl;have hcz12_2 : w11.cell? ⟨gb101,2,none⟩ = some (.int .i64 a0_2):=(blk_cell BK101.out 2).trans rfl;have hcz12_3 : w11.cell? ⟨gb101,3,none⟩ = some (.int .i64 a0_3):=(blk_cell BK101.out 3).trans rfl;have hfz12_0:=blk_frozen BK101.out 0;have hfz12_1:=blk_frozen BK101.out 1;have hfz12_2:=blk_frozen BK101.out 2;have hfz12_3:=blk_frozen BK101.out 3) | ((with_reducible refine gate_callee (f:=171) rfl ?_);refine goesL_ (some 5) rfl rfl Try.func171 (by kernel_rfl) rfl #[.string a0_0] rfl (q22_) ?_;(with_reducible refine (spec_naName.calls k a0_0 true _ A2.out).mono ?_);rintro e w' ⟨rfl,⟨nd,rfl⟩⟩;refine ⟨_,rfl,?_⟩) | (go_at_call 172;(with_reducible refine (spec_naLetter.calls a0_1 true _ A4.out).mono ?_);rintro e w' ⟨rfl,⟨nd,rfl⟩⟩) | (go_at_call 179;(with_reducible refine (spec_naPlace.calls a0_2 false _ A6.out).mono ?_);rintro e w' ⟨rfl,⟨nd,rfl⟩⟩))
    go_ret;exact ⟨q4_,q26_⟩
  ·replace c5:=Bool.eq_false_iff.mpr c5;subst c5;have H1 : (some false) = some r:=by rw [if_neg (show ¬ (false = true) by decide)] at H;exact H
   clear H;have H:=H1;clear H1;obtain rfl:=Option.some.inj H;go_enter Try.func238,Try.ntmps238
   go_wp2_with (first | ((with_reducible refine gate_dst (N:=1) rfl ?_);refine box_event ?hg (N:=1) ?hd (cs:=#[.string a0_0,.int .i64 a0_1,.int .i64 a0_2,.int .i64 a0_3]) (t:=77) ?hr ?_;(case hd=>rfl);(case hg=>rfl);(case hr=>first | (go_simp;done) | (go_simp;rfl));intro gb101 hg w13 hbox hb;have BK101:=Aside0.mk (hbox);have GW101:=Aside0.mk ((q49_ : w.heap.size ≤ gb101));have GE101:=Aside0.mk ((q49_ : w.heap.size ≤ gb101));replace HB:=bS_ HB hb;clear hb hbox hg;have hcz14_0 : w13.cell? ⟨gb101,0,none⟩ = some (.string a0_0):=(blk_cell BK101.out 0).trans rfl;have hcz14_1 : w13.cell? ⟨gb101,1,none⟩ = some (.int .i64 a0_1):=(blk_cell BK101.out 1).trans rfl;have hcz14_2 : w13.cell? ⟨gb101,2,none⟩ = some (.int .i64 a0_2):=(blk_cell BK101.out 2).trans rfl;have hcz14_3 : w13.cell? ⟨gb101,3,none⟩ = some (.int .i64 a0_3):=(blk_cell BK101.out 3).trans rfl;have hfz14_0:=blk_frozen BK101.out 0;have hfz14_1:=blk_frozen BK101.out 1;have hfz14_2:=blk_frozen BK101.out 2;have hfz14_3:=blk_frozen BK101.out 3) | ((with_reducible refine gate_callee (f:=171) rfl ?_);refine goesL_ (some 5) rfl rfl Try.func171 (by kernel_rfl) rfl #[.string a0_0] rfl (q22_) ?_;(with_reducible refine (spec_naName.calls k a0_0 true _ A2.out).mono ?_);rintro e w' ⟨rfl,⟨nd,rfl⟩⟩;refine ⟨_,rfl,?_⟩) | (go_at_call 172;(with_reducible refine (spec_naLetter.calls a0_1 false _ A4.out).mono ?_);rintro e w' ⟨rfl,⟨nd,rfl⟩⟩))
   go_ret;exact ⟨q4_,q26_⟩
 ·replace c3:=Bool.eq_false_iff.mpr c3;subst c3;have H1 : (some false) = some r:=by rw [if_neg (show ¬ (false = true) by decide)] at H;exact H
  clear H;have H:=H1;clear H1;obtain rfl:=Option.some.inj H;go_enter Try.func238,Try.ntmps238
  go_wp2_with (first | ((with_reducible refine gate_dst (N:=1) rfl ?_);refine box_event ?hg (N:=1) ?hd (cs:=#[.string a0_0,.int .i64 a0_1,.int .i64 a0_2,.int .i64 a0_3]) (t:=77) ?hr ?_;(case hd=>rfl);(case hg=>rfl);(case hr=>first | (go_simp;done) | (go_simp;rfl));intro gb101 hg w15 hbox hb;have BK101:=Aside0.mk (hbox);have GW101:=Aside0.mk ((q49_ : w.heap.size ≤ gb101));have GE101:=Aside0.mk ((q49_ : w.heap.size ≤ gb101));replace HB:=bS_ HB hb;clear hb hbox hg;have hcz16_0 : w15.cell? ⟨gb101,0,none⟩ = some (.string a0_0):=(blk_cell BK101.out 0).trans rfl;have hcz16_1 : w15.cell? ⟨gb101,1,none⟩ = some (.int .i64 a0_1):=(blk_cell BK101.out 1).trans rfl;have hcz16_2 : w15.cell? ⟨gb101,2,none⟩ = some (.int .i64 a0_2):=(blk_cell BK101.out 2).trans rfl;have hcz16_3 : w15.cell? ⟨gb101,3,none⟩ = some (.int .i64 a0_3):=(blk_cell BK101.out 3).trans rfl;have hfz16_0:=blk_frozen BK101.out 0;have hfz16_1:=blk_frozen BK101.out 1;have hfz16_2:=blk_frozen BK101.out 2;have hfz16_3:=blk_frozen BK101.out 3) | ((with_reducible refine gate_callee (f:=171) rfl ?_);refine goesL_ (some 5) rfl rfl Try.func171 (by kernel_rfl) rfl #[.string a0_0] rfl (q22_) ?_;(with_reducible refine (spec_naName.calls k a0_0 false _ A2.out).mono ?_);rintro e w' ⟨rfl,⟨nd,rfl⟩⟩;refine ⟨_,rfl,?_⟩))
  go_ret;exact ⟨q4_,q26_⟩
end Go.Proofs.Ytgapcmmhbegdeaa.G
