-- Written by this session's own program over the kit's print (wip/tools/myprint.py); Lean checks it.
import Derived.Test.YtmllkdgdkagkkaaMBase
import Derived.Test.YtmllkdgdkagkkaaG0
import Derived.Test.YtmllkdgdkagkkaaG1
import Derived.Test.YtmllkdgdkagkkaaG2
import Derived.Test.YtmllkdgdkagkkaaG12
import Derived.Test.YtmllkdgdkagkkaaG29
import Derived.Test.YtmllkdgdkagkkaaG30
namespace Go.Proofs.Ytmllkdgdkagkkaa.G
open Go.RowKit Go.Proofs.YtmllkdgdkagkkaaW.PrintWords Go.Proofs.YtmllkdgdkagkkaaW.PrintLast Go.Proofs.YtmllkdgdkagkkaaW.PrintMore
attribute [local go_sem] max2_int min2_int max_two min_two max_three min_three max_four min_four str_geq str_gtr str_leq   -- for this text's walks alone
set_option linter.unusedVariables false
set_option linter.unusedSimpArgs false
/-! ### impl_AgreementBeyond: function 18 -/
def impl_AgreementBeyond.sum (ga : List ByteArray) : List ByteArray → Int → Int
 | [],e=>e
 | s :: gb,e=>impl_AgreementBeyond.sum ga gb (wrap64 (e + MMap.cnt ga s))
theorem impl_AgreementBeyond.sum_snoc (ga : List ByteArray) (s : ByteArray) : ∀ (gb : List ByteArray) (e : Int),impl_AgreementBeyond.sum ga (gb ++ [s]) e = wrap64 (impl_AgreementBeyond.sum ga gb e + MMap.cnt ga s)
 | [],_=>rfl
 | _ :: gb,_=>impl_AgreementBeyond.sum_snoc ga s gb _
def impl_AgreementBeyond.g (n s : Int) (ga gb : List ByteArray) : Option (Int × Bool):=if (ga.all (fun x=>decide (x.size ≤ 140737488355328)) && gb.all (fun x=>decide (x.size ≤ 140737488355328)) && decide (ga.length ≤ 1000) && decide (gb.length ≤ 1000)) = true then (if wrap64 (n * n) = impl_AgreementBeyond.sum ga gb 0 then some (100,true) else (impl_floorDiv.f (wrap64 (100 * (wrap64 ((wrap64 (n * s)) - impl_AgreementBeyond.sum ga gb 0)))) (wrap64 ((wrap64 (n * n)) - impl_AgreementBeyond.sum ga gb 0))).bind fun q=>some (q,true)) else none
def impl_AgreementBeyond.f (k : Nat) (l0 l1 : List S63) (a2 a3 : Int) : Option (Int × Bool):=(impl_IsTier.f k l0).bind fun t=>if t = true then ((impl_IsTier.f k l1).bind fun u=>if u = true then ((impl_isWindow.f a2 a3).bind fun v=>if v = true then ((impl_sameFrames.f k l0 l1 a2 a3).bind fun s=>(impl_frameGlosses.f k l0 a2 a3).bind fun ga=>(impl_frameGlosses.f k l1 a2 a3).bind fun gb=>impl_AgreementBeyond.g (wrap64 (a3 - a2)) s ga gb) else some (0,false)) else some (0,false)) else some (0,false)
theorem impl_AgreementBeyond.all_at {l : List ByteArray} (h : l.all (fun x=>decide (x.size ≤ 140737488355328)) = true) (i : Int) (h0 : 0 ≤ i) (h1 : i < (l.length : Int)) : (l.getD i.toNat ⟨#[]⟩).size ≤ maxLen:=by
 rw [List.all_eq_true] at h;have h2 : i.toNat < l.length:=by omega
 rw [List.getD_eq_getElem?_getD,List.getElem?_eq_getElem h2];have h3:=h _ (List.getElem_mem h2);have h4:=of_decide_eq_true h3;exact Nat.le_trans h4 (by unfold maxLen;omega)
theorem impl_AgreementBeyond.take_at {l : List ByteArray} (i : Int) (h0 : 0 ≤ i) (h1 : i < (l.length : Int)) : l.take (i + 1).toNat = l.take i.toNat ++ [l.getD i.toNat ⟨#[]⟩]:=by
 have h2 : i.toNat < l.length:=by omega
 rw [show (i + 1).toNat = i.toNat + 1 by omega,List.take_succ_eq_append_getElem h2,List.getD_eq_getElem?_getD,List.getElem?_eq_getElem h2];rfl
set_option maxHeartbeats 8000000 in
set_option maxRecDepth 100000 in
theorem impl_AgreementBeyond.calls (k : Nat) (A0 : Option Addr) (c0 : Nat) (l0 : List S63) (A1 : Option Addr) (c1 : Nat) (l1 : List S63) (a2 a3 : Int) (r1 : Int) (r2 : Bool) (w : World) (hr0 : Kd.C k63 w A0 l0.length l0) (hc0 : l0.length ≤ c0) (hr1 : Kd.C k63 w A1 l1.length l1) (hc1 : l1.length ≤ c1) (h : impl_AgreementBeyond.f k l0 l1 a2 a3 = some (r1,r2)) :
  Calls Try.prog 18 #[.slice A0 l0.length c0,.slice A1 l1.length c1,.int .i64 a2,.int .i64 a3] w fun e w' => e = .returned (.tuple #[.int .i64 r1,.bool r2]) ∧ Below w.heap.size w w' := by
 obtain ⟨t,ht,h⟩:=Option.bind_eq_some_iff.mp h;have HR0:=Aside0.mk hr0;have HR1:=Aside0.mk hr1;have HC0:=Aside0.mk hc0;have HC1:=Aside0.mk hc1;have HB:=Aside0.mk (Below.refl w.heap.size w);have HT:=Aside0.mk (fun (W : World) (hb : Below w.heap.size w W)=>impl_IsTier.calls k A0 c0 l0 t W (Kd.C_below HR0.out hb) HC0.out ht);have hmm:=@run_makeMap Try.prog;clear ht hr0 hr1 hc0 hc1;go_enter Try.func18,Try.ntmps18
 go_wp2_with fail
 refine MOwn.named ?_;intro wa hW;have HB1:=Aside0.mk (show Below w.heap.size w wa by exact q9_);clear HB hW;refine (HT.out wa HB1.out).mono ?_;clear HT;rintro e wb ⟨rfl,hb⟩;have HB:=Aside0.mk (below_step HB1.out hb);clear hb HB1;cases t with
 | false =>
  simp only [Bool.false_eq_true,if_false,Option.some.injEq,Prod.mk.injEq] at h;obtain ⟨rfl,rfl⟩:=h;go_wp2;go_ret2
  exact ⟨rfl,q7_⟩
 | true =>
  simp only [if_true] at h;obtain ⟨u,hu,h⟩:=Option.bind_eq_some_iff.mp h;have HU:=Aside0.mk (fun (W : World) (hb : Below w.heap.size w W)=>impl_IsTier.calls k A1 c1 l1 u W (Kd.C_below HR1.out hb) HC1.out hu);clear hu;go_wp2_with fail
  refine MOwn.named ?_;intro wc hW;have HB1:=Aside0.mk (show Below w.heap.size w wc by exact q9_);clear HB hW;refine (HU.out wc HB1.out).mono ?_;clear HU;rintro e wd ⟨rfl,hb⟩;have HB:=Aside0.mk (below_step HB1.out hb);clear hb HB1;cases u with
  | false =>
   simp only [Bool.false_eq_true,if_false,Option.some.injEq,Prod.mk.injEq] at h;obtain ⟨rfl,rfl⟩:=h;go_wp2;go_ret2
   exact ⟨rfl,q7_⟩
  | true =>
   simp only [if_true] at h;obtain ⟨v,hv,h⟩:=Option.bind_eq_some_iff.mp h;have HV:=Aside0.mk hv;clear hv;go_wp2_with fail
   refine MOwn.named ?_;intro we hW;have HB1:=Aside0.mk (show Below w.heap.size w we by exact q9_);clear HB hW;refine (impl_isWindow.calls a2 a3 v we HV.out).mono ?_;clear HV;rintro e wf ⟨rfl,hd⟩;have HB:=Aside0.mk (below_step HB1.out hd.below);clear hd HB1;cases v with
   | false =>
    simp only [Bool.false_eq_true,if_false,Option.some.injEq,Prod.mk.injEq] at h;obtain ⟨rfl,rfl⟩:=h;go_wp2;go_ret2
    exact ⟨rfl,q7_⟩
   | true =>
    simp only [if_true] at h;obtain ⟨s,hs,h1_⟩:=Option.bind_eq_some_iff.mp h;clear h;obtain ⟨ga,hga,h2_⟩:=Option.bind_eq_some_iff.mp h1_;clear h1_;obtain ⟨gb,hgb,h⟩:=Option.bind_eq_some_iff.mp h2_;clear h2_;have HS:=Aside0.mk (fun (W : World) (hb : Below w.heap.size w W)=>impl_sameFrames.calls k A0 c0 l0 A1 c1 l1 a2 a3 s W (Kd.C_below HR0.out hb) HC0.out (Kd.C_below HR1.out hb) HC1.out hs);have HGA:=Aside0.mk (fun (W : World) (hb : Below w.heap.size w W)=>impl_frameGlosses.calls k A0 c0 l0 a2 a3 ga W (Kd.C_below HR0.out hb) HC0.out hga);have HGB:=Aside0.mk (fun (W : World) (hb : Below w.heap.size w W)=>impl_frameGlosses.calls k A1 c1 l1 a2 a3 gb W (Kd.C_below HR1.out hb) HC1.out hgb);unfold impl_AgreementBeyond.g at h
    split at h
    rotate_left
    ·exact absurd h (by simp)
    rename_i hok;simp only [Bool.and_eq_true,decide_eq_true_eq] at hok;have HOK:=Aside0.mk hok;have HH:=Aside0.mk h;clear hs hga hgb h hok;go_wp2_with fail
    refine MOwn.named ?_;intro wg hW;have HB1:=Aside0.mk (show Below w.heap.size w wg by exact q9_);clear HB hW;refine (HS.out wg HB1.out).mono ?_;clear HS;rintro e wh ⟨rfl,hb⟩;have HB:=Aside0.mk (below_step HB1.out hb);clear hb HB1;go_wp2_with fail
    obtain ⟨B,hB⟩ : ∃ B,wh.heap.size = B:=⟨_,rfl⟩;rw [hB];refine MOwn.named ?_;intro wi hW;have HB1:=Aside0.mk (show Below w.heap.size w wi by exact q9_);have hown:=show wi.ownsMap Try.prog 9 (plainElem Try.prog 3) B 0 (.map [] : DataW Unit) by subst hW;rw [← hB];exact World.ownsMap_made _ _ _ _
    have HWB:=Aside0.mk (show w.heap.size ≤ B by have:=HB.out.size;omega);have hlt:=hown.lt;clear HB hW hB;refine (HGA.out wi HB1.out).mono ?_;clear HGA;rintro e wj ⟨v,rfl,ho,hb⟩;have HB:=Aside0.mk (below_step HB1.out hb);have HR:=Aside0.mk (show Kd.R Kd.string 9 wj w.heap.size (fun k=>k ≠ B) v ga from Kd.R_mono (Kd.R_lower (Kd.R_bound ho) HB1.out.size) (fun k hk=>by have:=hk.2.1;omega));have HO:=Aside0.mk (MMap.own_below hown hb);obtain ⟨Ag,cg,rfl⟩:=Kd.R_slice HR.out;clear ho hb HB1 hown hlt;go_wp2;go_loopg [15,46] ga.length (fun gg _ s46 wr=>∃ i : Int,s46 = .int .i64 i ∧ Aside0 (0 ≤ i ∧ i ≤ (ga.length : Int) ∧ (ga.length : Int) - i ≤ (gg : Int)) ∧ Aside0 (∃ D,MMap.Has (ga.take i.toNat) D ∧ wr.ownsMap Try.prog 9 (plainElem Try.prog 3) B i.toNat D) ∧ Aside0 (Kd.R Kd.string 9 wr w.heap.size (fun k=>k ≠ B) (.slice Ag ga.length cg) ga) ∧ Aside0 (Below w.heap.size w wr))
    case atStart=>exact ⟨0,rfl,⟨by omega⟩,⟨_,MMap.Has.start,HO.out⟩,⟨HR.out⟩,⟨HB.out⟩⟩
    case round =>
     clear HO HR HB;obtain ⟨i,rfl,HX,HO,HR,HB⟩:=hrel;by_cases hlt : i < (ga.length : Int)
     ·have p1 : 0 ≤ i:=HX.out.1;obtain ⟨g,cap,he,_⟩:=Kd.R_form HR.out (by omega);obtain ⟨rfl,-,-⟩:=Value.slice.inj he;obtain ⟨ce,hcl,hM,hcc,_⟩:=Kd.R_elem HR.out ⟨#[]⟩ i p1 hlt;obtain ⟨x,hxe⟩ : ∃ x,x = ga.getD i.toNat ⟨#[]⟩:=⟨_,rfl⟩;have hkey : keyOf Try.prog 9 (.string x) = some (MMap.key x):=by rw [hxe];exact Go.WideMaps.keyOf_string_mk Try.underlying9 (impl_AgreementBeyond.all_at HOK.out.1.1.1 i p1 hlt)
      rw [← hxe] at hM;obtain rfl : ce = [.string x]:=hM
      have hx0 : wr.cell? ⟨g,i.toNat,none⟩ = some (.string x):=by
       have:=hcc 0 _ rfl;rw [show i.toNat * Kd.string.sz + 0 = i.toNat from Nat.mul_one _] at this;exact this
      have HTK:=Aside0.mk (impl_AgreementBeyond.take_at i p1 hlt);rw [← hxe] at HTK;have hw : wrap64 (i + 1) = i + 1:=by have:=HOK.out;unfold wrap64;omega
      have HW:=Aside0.mk hw;have HLT:=Aside0.mk hlt;have b1 : decide (i < (ga.length : Int)) = true:=decide_eq_true hlt;clear hcl hcc hxe he hlt hw;replace p1:=eq_true p1;have q1:=eq_true HLT.out;obtain ⟨D,hD,hown⟩:=HO.out;obtain ⟨c,hrun,hat,_⟩:=hown.lookup_int (MMap.law Try.underlying9) Try.underlying85 Try.underlying3 (show (zeroValue 3).run Try.prog wr = .ok (.int .i64 0) wr by kernel_rfl) hkey
      have hc : c = MMap.cnt (ga.take i.toNat) x:=by
       rw [hD.2 x] at hat;injection hat with hat
       injection hat with _ hat
       exact hat.symm
      subst hc
      have HCW:=Aside0.mk (show wrap64 (MMap.cnt (ga.take i.toNat) x + 1) = MMap.cnt (ga.take i.toNat) x + 1 by
       have h1:=MMap.cnt_le (ga.take i.toNat) x;have h2 : (ga.take i.toNat).length ≤ ga.length:=by rw [List.length_take];exact Nat.min_le_right _ _
       have:=HOK.out;unfold wrap64;omega)
      have HD:=Aside0.mk hD;clear hat hD;go_wp2_with (first | (at_mapUpdate;refine wpList_mapUpdate_own _ rfl _ _ _ 85 rfl 9 3 (MMap.law Try.underlying9) Try.underlying85 _ B i.toNat _ rfl hown (by have:=HOK.out;have:=HX.out;unfold maxLen;omega) _ _ _ rfl rfl hkey _ [] (plainElem_int Try.underlying3 (wrap64_wf _)) ?_) | go_in)
      intro w1 hown1 hgrow1;have HO1:=Aside0.mk hown1;have HR1:=Aside0.mk (Kd.R_step HR.out (w1:=w1) (fun k hk hlt=>hgrow1.block k hlt (by simpa using hk)));have HB1:=Aside0.mk (HB.out.grown hgrow1 HB.out.size (fun k hk=>by cases hk;exact HWB.out));clear hown hown1 hgrow1 hrun HO HR HB hx0;go_wp2;go_roundg (ga.length - (i.toNat + 1))
      case measure=>have:=HX.out;have:=HLT.out;omega
      case rel =>
       refine ⟨i + 1,by first | rfl | (rw [HW.out]) | (simp [HW.out]),⟨by have:=HX.out;have:=HLT.out;omega⟩,⟨D.put (MMap.key x) (.lit (.int .i64 (MMap.cnt (ga.take i.toNat) x + 1))),?_,?_⟩,⟨HR1.out⟩,⟨HB1.out⟩⟩;rotate_left
       ·have h1:=HO1.out;rw [HCW.out] at h1;rw [show (i + 1).toNat = i.toNat + 1 by have:=HX.out;omega];exact h1
       ·rw [HTK.out];exact HD.out.step x
     ·have b1 : decide (i < (ga.length : Int)) = false:=decide_eq_false hlt;have hi : i.toNat = ga.length:=by have:=HX.out;omega
      obtain ⟨D,hD,hown⟩:=HO.out;rw [hi,List.take_length] at hD;have HD:=Aside0.mk hD;clear hD hlt HR;go_wp2_with fail
      have HO:=Aside0.mk hown;clear hown;refine (HGB.out _ HB.out).mono ?_;clear HGB;rintro e wl ⟨v,rfl,ho,hb⟩;have HB1:=Aside0.mk (below_step HB.out hb);have hlt:=HO.out.lt;have HR:=Aside0.mk (show Kd.R Kd.string 9 wl w.heap.size (fun k=>k ≠ B) v gb from Kd.R_mono (Kd.R_lower (Kd.R_bound ho) HB.out.size) (fun k hk=>by have:=hk.2.1;omega));have HO1:=Aside0.mk (MMap.own_below HO.out hb);obtain ⟨Ah,ch,rfl⟩:=Kd.R_slice HR.out;clear ho hb HB HO hlt;have HB:=HB1;have HO:=HO1;clear HB1 HO1;go_wp2;go_loopg [12,17,60] gb.length (fun gg s12 _ s60 wr=>∃ i : Int,s12 = .int .i64 (impl_AgreementBeyond.sum ga (gb.take i.toNat) 0) ∧ s60 = .int .i64 i ∧ Aside0 (0 ≤ i ∧ i ≤ (gb.length : Int) ∧ (gb.length : Int) - i ≤ (gg : Int)) ∧ Aside0 (wr.ownsMap Try.prog 9 (plainElem Try.prog 3) B ga.length D) ∧ Aside0 (Kd.R Kd.string 9 wr w.heap.size (fun k=>k ≠ B) (.slice Ah gb.length ch) gb) ∧ Aside0 (Below w.heap.size w wr))
      case atStart=>exact ⟨0,rfl,rfl,⟨by omega⟩,⟨by rw [← hi];exact HO.out⟩,⟨HR.out⟩,⟨HB.out⟩⟩
      case round =>
       clear HO HR HB;obtain ⟨i,rfl,rfl,HX,HO,HR,HB⟩:=hrel;by_cases hlt : i < (gb.length : Int)
       ·have p1 : 0 ≤ i:=HX.out.1;obtain ⟨g,cap,he,_⟩:=Kd.R_form HR.out (by omega);obtain ⟨rfl,-,-⟩:=Value.slice.inj he;obtain ⟨ce,hcl,hM,hcc,_⟩:=Kd.R_elem HR.out ⟨#[]⟩ i p1 hlt;obtain ⟨x,hxe⟩ : ∃ x,x = gb.getD i.toNat ⟨#[]⟩:=⟨_,rfl⟩;have hkey : keyOf Try.prog 9 (.string x) = some (MMap.key x):=by rw [hxe];exact Go.WideMaps.keyOf_string_mk Try.underlying9 (impl_AgreementBeyond.all_at HOK.out.1.1.2 i p1 hlt)
        rw [← hxe] at hM;obtain rfl : ce = [.string x]:=hM
        have hx0 : wr.cell? ⟨g,i.toNat,none⟩ = some (.string x):=by
         have:=hcc 0 _ rfl;rw [show i.toNat * Kd.string.sz + 0 = i.toNat from Nat.mul_one _] at this;exact this
        have HTK:=Aside0.mk (impl_AgreementBeyond.take_at i p1 hlt);rw [← hxe] at HTK;have hw : wrap64 (i + 1) = i + 1:=by have:=HOK.out;unfold wrap64;omega
        have HW:=Aside0.mk hw;have HLT:=Aside0.mk hlt;have b1 : decide (i < (gb.length : Int)) = true:=decide_eq_true hlt;clear hcl hcc hxe he hlt hw;replace p1:=eq_true p1;have q1:=eq_true HLT.out;have hown:=HO.out;obtain ⟨c,hrun,hat,_⟩:=hown.lookup_int (MMap.law Try.underlying9) Try.underlying85 Try.underlying3 (show (zeroValue 3).run Try.prog wr = .ok (.int .i64 0) wr by kernel_rfl) hkey
        have hc : c = MMap.cnt ga x:=by
         rw [HD.out.2 x] at hat;injection hat with hat
         injection hat with _ hat
         exact hat.symm
        subst hc;clear hat hown;go_wp2;go_roundg (gb.length - (i.toNat + 1))
        case measure=>have:=HX.out;have:=HLT.out;omega
        case rel =>
         refine ⟨i + 1,?_,by first | rfl | (rw [HW.out]) | (simp [HW.out]),⟨by have:=HX.out;have:=HLT.out;omega⟩,HO,HR,HB⟩;rw [HTK.out,impl_AgreementBeyond.sum_snoc]
       ·have b2 : decide (i < (gb.length : Int)) = false:=decide_eq_false hlt;have hi2 : i.toNat = gb.length:=by have:=HX.out;omega
        have hsum : impl_AgreementBeyond.sum ga (gb.take i.toNat) 0 = impl_AgreementBeyond.sum ga gb 0:=by rw [hi2,List.take_length]
        rw [hsum];have h:=HH.out;generalize impl_AgreementBeyond.sum ga gb 0 = E at h ⊢;clear hlt HR HO hsum hi2 HH;by_cases hq : wrap64 (wrap64 (a3 - a2) * wrap64 (a3 - a2)) = E
        ·rw [if_pos hq] at h;simp only [Option.some.injEq,Prod.mk.injEq] at h;obtain ⟨rfl,rfl⟩:=h;have b3 : (wrap64 (wrap64 (a3 - a2) * wrap64 (a3 - a2)) == E) = true:=by simp [hq]
         clear hq;go_wp2;go_ret2
         exact ⟨rfl,HB.out⟩
        ·rw [if_neg hq] at h;obtain ⟨qv,hqv,h⟩:=Option.bind_eq_some_iff.mp h;simp only [Option.some.injEq,Prod.mk.injEq] at h;obtain ⟨rfl,rfl⟩:=h;have b3 : (wrap64 (wrap64 (a3 - a2) * wrap64 (a3 - a2)) == E) = false:=by simp [hq]
         have HQ:=Aside0.mk hqv;clear hq hqv;go_wp2_with fail
         refine (impl_floorDiv.calls _ _ qv _ HQ.out).mono ?_;rintro e wm ⟨rfl,hd⟩;have HB1:=Aside0.mk (below_step HB.out hd.below);clear hd HB;go_wp2;go_ret2
         exact ⟨rfl,HB1.out⟩
/-! ### laws_FnExactAgreementBeyond: function 3 -/
def laws_FnExactAgreementBeyond.Pure : Prop:=∀ (l0 : List (S60)) (l1 : List (S60)) (a2 : Int) (a3 : Int),((∀ a_,a_ ∈ l0 → gT60 a_) ∧ l0.length * 32 ≤ 140737488351232) → ((∀ a_,a_ ∈ l1 → gT60 a_) ∧ l1.length * 32 ≤ 140737488351232) → (Lit.int .i64 a2).wf = true → (Lit.int .i64 a3).wf = true → ∃ k : Nat,∃ z0 : Int,laws_szNoteS.f k l0 1048576 = some z0 ∧ (0 ≤ z0 → ∃ z1 : Int,laws_szNoteS.f k l1 z0 = some z1 ∧ (0 ≤ z1 → ∃ (x0 : List (S63)) (x1 : List (S63)) (r0 : Int) (r1 : Bool),laws_toNoteS.f k l0 = some x0 ∧ laws_toNoteS.f k l1 = some x1 ∧ spec_AgreementBeyond.f k x0 x1 a2 a3 = some (r0,r1) ∧ impl_AgreementBeyond.f k x0 x1 a2 a3 = some (r0,r1) ∧ laws_eqNoteS.f k x0 x0 = some true ∧ laws_eqNoteS.f k x1 x1 = some true))
set_option maxHeartbeats 40000000 in
set_option maxRecDepth 100000 in
theorem laws_FnExactAgreementBeyond.walk (P : laws_FnExactAgreementBeyond.Pure) (A0 : Option Addr) (c0 : Nat) (l0 : List (S60)) (A1 : Option Addr) (c1 : Nat) (l1 : List (S60)) (a2 : Int) (a3 : Int) (w : World) (hr0 : Kd.C k60 w A0 l0.length l0) (hc0 : l0.length ≤ c0) (hr1 : Kd.C k60 w A1 l1.length l1) (hc1 : l1.length ≤ c1) (b0 : ((∀ a_,a_ ∈ l0 → gT60 a_) ∧ l0.length * 32 ≤ 140737488351232)) (b1 : ((∀ a_,a_ ∈ l1 → gT60 a_) ∧ l1.length * 32 ≤ 140737488351232)) (b2 : (Lit.int .i64 a2).wf = true) (b3 : (Lit.int .i64 a3).wf = true) :
  Calls Try.prog 3 #[.slice A0 l0.length c0,.slice A1 l1.length c1,.int .i64 a2,.int .i64 a3] w fun e w' => e = .returned (.bool true) ∧ Below w.heap.size w w' := by
 obtain ⟨k,F⟩:=P l0 l1 a2 a3 b0 b1 b2 b3;clear P b0 b1 b2 b3;have HR0:=Aside0.mk hr0;have HC0:=Aside0.mk hc0;clear hr0 hc0;have HR1:=Aside0.mk hr1;have HC1:=Aside0.mk hc1;clear hr1 hc1;have HB:=Aside0.mk (Below.refl w.heap.size w);obtain ⟨z0,Fz0,F⟩:=F;have FZ0:=Aside0.mk Fz0;clear Fz0;have FF:=Aside0.mk F;clear F;go_enter Try.func3,Try.ntmps3
 go_wp2_with fail
 refine MOwn.named ?_;intro wa1 hW;have HB' := Aside0.mk (show Below w.heap.size w wa1 from (q9_));clear HB;have HB:=HB';clear HB' hW;refine (laws_szNoteS.calls k _ _ l0 1048576 z0 _ (Kd.C_below HR0.out HB.out) HC0.out FZ0.out).mono ?_;rintro e wb1 ⟨rfl,hb⟩;have HB' := Aside0.mk (below_step HB.out hb);clear HB;have HB:=HB';clear HB' hb;by_cases hz : z0 < 0
 case pos =>
  have b1 : decide (z0 < 0) = true:=decide_eq_true hz;clear hz;go_wp2;go_ret;exact ⟨rfl,q7_⟩
 have b1_0 : decide (z0 < 0) = false:=decide_eq_false hz;have F:=FF.out (by omega);clear FF hz;obtain ⟨z1,Fz1,F⟩:=F;have FZ1:=Aside0.mk Fz1;clear Fz1;have FF:=Aside0.mk F;clear F;go_wp2_with fail
 refine MOwn.named ?_;intro wa2 hW;have HB' := Aside0.mk (show Below w.heap.size w wa2 from (q9_));clear HB;have HB:=HB';clear HB' hW;refine (laws_szNoteS.calls k _ _ l1 z0 z1 _ (Kd.C_below HR1.out HB.out) HC1.out FZ1.out).mono ?_;rintro e wb2 ⟨rfl,hb⟩;have HB' := Aside0.mk (below_step HB.out hb);clear HB;have HB:=HB';clear HB' hb;by_cases hz : z1 < 0
 case pos =>
  have b1 : decide (z1 < 0) = true:=decide_eq_true hz;clear hz;go_wp2;go_ret;exact ⟨rfl,q7_⟩
 have b1_1 : decide (z1 < 0) = false:=decide_eq_false hz;have F:=FF.out (by omega);clear FF hz;obtain ⟨x0,x1,r0,r1,Fto0,Fto1,Fsp,Fim,Fex0,Fex1⟩:=F;have H_Fto0:=Aside0.mk Fto0;clear Fto0;have H_Fto1:=Aside0.mk Fto1;clear Fto1;have H_Fsp:=Aside0.mk Fsp;clear Fsp;have H_Fim:=Aside0.mk Fim;clear Fim;have H_Fex0:=Aside0.mk Fex0;clear Fex0;have H_Fex1:=Aside0.mk Fex1;clear Fex1;go_wp2_with fail
 refine MOwn.named ?_;intro wa3 hW;have HB' := Aside0.mk (show Below w.heap.size w wa3 from (q9_));clear HB;have HB:=HB';clear HB' hW;refine (laws_toNoteS.calls k _ _ l0 x0 _ (Kd.C_below HR0.out HB.out) HC0.out H_Fto0.out).mono ?_;rintro e wb3 ⟨vp0,rfl,hop0,hb⟩;obtain ⟨pp0_,hrp0_,hlp0_,htp0_⟩:=MOwn.RR.new hop0 (below_size HB.out);have Hp0:=Aside0.mk hrp0_;clear hrp0_ hlp0_ hop0 htp0_;obtain ⟨Ap0_,cp0_,rfl⟩:=Hp0.out.form;have HB' := Aside0.mk (below_step HB.out hb);clear HB;have HB:=HB';clear HB' hb;go_wp2_with fail
 refine MOwn.named ?_;intro wa4 hW;have H' := Aside0.mk (Hp0.out.at (W:=wa4) (by subst hW;rfl));clear Hp0;have Hp0:=H';clear H';have HB' := Aside0.mk (show Below w.heap.size w wa4 from (q9_));clear HB;have HB:=HB';clear HB' hW;refine (laws_toNoteS.calls k _ _ l1 x1 _ (Kd.C_below HR1.out HB.out) HC1.out H_Fto1.out).mono ?_;rintro e wb4 ⟨vp1,rfl,hop1,hb⟩;obtain ⟨pp1_,hrp1_,hlp1_,htp1_⟩:=MOwn.RR.new hop1 (below_size HB.out);have Sp0_p1:=Aside0.mk (fun k_ (h1 : pp0_ k_) (h2 : pp1_ k_)=>Nat.lt_irrefl k_ (Nat.lt_of_lt_of_le (Hp0.out.2 k_ h1) (hlp1_ k_ h2)));have Hp1:=Aside0.mk hrp1_;clear hrp1_ hlp1_ hop1 htp1_;have H' := Aside0.mk (Hp0.out.below hb);clear Hp0;have Hp0:=H';clear H';obtain ⟨Ap1_,cp1_,rfl⟩:=Hp1.out.form;have HB' := Aside0.mk (below_step HB.out hb);clear HB;have HB:=HB';clear HB' hb;go_wp2_with fail
 refine MOwn.named ?_;intro wa5 hW;have H' := Aside0.mk (Hp0.out.at (W:=wa5) (by subst hW;rfl));clear Hp0;have Hp0:=H';clear H';have H' := Aside0.mk (Hp1.out.at (W:=wa5) (by subst hW;rfl));clear Hp1;have Hp1:=H';clear H';have HB' := Aside0.mk (show Below w.heap.size w wa5 from (q9_));clear HB;have HB:=HB';clear HB' hW;refine (spec_AgreementBeyond.calls k _ _ x0 _ _ x1 a2 a3 r0 r1 _ Hp0.out.reads.2.2 Hp0.out.reads.2.1 Hp1.out.reads.2.2 Hp1.out.reads.2.1 H_Fsp.out).mono ?_;rintro e wb5 ⟨rfl,hb⟩;have H' := Aside0.mk (Hp0.out.below hb);clear Hp0;have Hp0:=H';clear H';have H' := Aside0.mk (Hp1.out.below hb);clear Hp1;have Hp1:=H';clear H';have HB' := Aside0.mk (below_step HB.out hb);clear HB;have HB:=HB';clear HB' hb Hp0 Hp1;go_wp2_with fail
 refine MOwn.named ?_;intro wa6 hW;have HB' := Aside0.mk (show Below w.heap.size w wa6 from (q9_));clear HB;have HB:=HB';clear HB' hW;refine (laws_toNoteS.calls k _ _ l0 x0 _ (Kd.C_below HR0.out HB.out) HC0.out H_Fto0.out).mono ?_;rintro e wb6 ⟨vx0,rfl,hox0,hb⟩;obtain ⟨px0_,hrx0_,hlx0_,htx0_⟩:=MOwn.RR.new hox0 (below_size HB.out);have Hx0:=Aside0.mk hrx0_;clear hrx0_ hlx0_ hox0 htx0_;obtain ⟨Ax0_,cx0_,rfl⟩:=Hx0.out.form;have HB' := Aside0.mk (below_step HB.out hb);clear HB;have HB:=HB';clear HB' hb;go_wp2_with fail
 refine MOwn.named ?_;intro wa7 hW;have H' := Aside0.mk (Hx0.out.at (W:=wa7) (by subst hW;rfl));clear Hx0;have Hx0:=H';clear H';have HB' := Aside0.mk (show Below w.heap.size w wa7 from (q9_));clear HB;have HB:=HB';clear HB' hW;refine (laws_toNoteS.calls k _ _ l1 x1 _ (Kd.C_below HR1.out HB.out) HC1.out H_Fto1.out).mono ?_;rintro e wb7 ⟨vx1,rfl,hox1,hb⟩;obtain ⟨px1_,hrx1_,hlx1_,htx1_⟩:=MOwn.RR.new hox1 (below_size HB.out);have Sx0_x1:=Aside0.mk (fun k_ (h1 : px0_ k_) (h2 : px1_ k_)=>Nat.lt_irrefl k_ (Nat.lt_of_lt_of_le (Hx0.out.2 k_ h1) (hlx1_ k_ h2)));have Hx1:=Aside0.mk hrx1_;clear hrx1_ hlx1_ hox1 htx1_;have H' := Aside0.mk (Hx0.out.below hb);clear Hx0;have Hx0:=H';clear H';obtain ⟨Ax1_,cx1_,rfl⟩:=Hx1.out.form;have HB' := Aside0.mk (below_step HB.out hb);clear HB;have HB:=HB';clear HB' hb;go_wp2_with fail
 refine MOwn.named ?_;intro wa8 hW;have H' := Aside0.mk (Hx0.out.at (W:=wa8) (by subst hW;rfl));clear Hx0;have Hx0:=H';clear H';have H' := Aside0.mk (Hx1.out.at (W:=wa8) (by subst hW;rfl));clear Hx1;have Hx1:=H';clear H';have HB' := Aside0.mk (show Below w.heap.size w wa8 from (q9_));clear HB;have HB:=HB';clear HB' hW;refine (impl_AgreementBeyond.calls k _ _ x0 _ _ x1 a2 a3 r0 r1 _ Hx0.out.reads.2.2 Hx0.out.reads.2.1 Hx1.out.reads.2.2 Hx1.out.reads.2.1 H_Fim.out).mono ?_;rintro e wb8 ⟨rfl,hb⟩;have H' := Aside0.mk (Hx0.out.below hb);clear Hx0;have Hx0:=H';clear H';have H' := Aside0.mk (Hx1.out.below hb);clear Hx1;have Hx1:=H';clear H';have HB' := Aside0.mk (below_step HB.out hb);clear HB;have HB:=HB';clear HB' hb;go_wp2_with fail
 refine MOwn.named ?_;intro wa9 hW;have H' := Aside0.mk (Hx0.out.at (W:=wa9) (by subst hW;rfl));clear Hx0;have Hx0:=H';clear H';have H' := Aside0.mk (Hx1.out.at (W:=wa9) (by subst hW;rfl));clear Hx1;have Hx1:=H';clear H';have HB' := Aside0.mk (show Below w.heap.size w wa9 from (q9_));clear HB;have HB:=HB';clear HB' hW;refine (laws_toNoteS.calls k _ _ l0 x0 _ (Kd.C_below HR0.out HB.out) HC0.out H_Fto0.out).mono ?_;rintro e wb9 ⟨vt0,rfl,hot0,hb⟩;obtain ⟨pt0_,hrt0_,hlt0_,htt0_⟩:=MOwn.RR.new hot0 (below_size HB.out);have Sx0_t0:=Aside0.mk (fun k_ (h1 : px0_ k_) (h2 : pt0_ k_)=>Nat.lt_irrefl k_ (Nat.lt_of_lt_of_le (Hx0.out.2 k_ h1) (hlt0_ k_ h2)));have Sx1_t0:=Aside0.mk (fun k_ (h1 : px1_ k_) (h2 : pt0_ k_)=>Nat.lt_irrefl k_ (Nat.lt_of_lt_of_le (Hx1.out.2 k_ h1) (hlt0_ k_ h2)));have Ht0:=Aside0.mk hrt0_;clear hrt0_ hlt0_ hot0 htt0_;have H' := Aside0.mk (Hx0.out.below hb);clear Hx0;have Hx0:=H';clear H';have H' := Aside0.mk (Hx1.out.below hb);clear Hx1;have Hx1:=H';clear H';obtain ⟨At0_,ct0_,rfl⟩:=Ht0.out.form;have HB' := Aside0.mk (below_step HB.out hb);clear HB;have HB:=HB';clear HB' hb;go_wp2_with fail
 refine MOwn.named ?_;intro wa10 hW;have H' := Aside0.mk (Hx0.out.at (W:=wa10) (by subst hW;rfl));clear Hx0;have Hx0:=H';clear H';have H' := Aside0.mk (Hx1.out.at (W:=wa10) (by subst hW;rfl));clear Hx1;have Hx1:=H';clear H';have H' := Aside0.mk (Ht0.out.at (W:=wa10) (by subst hW;rfl));clear Ht0;have Ht0:=H';clear H';have HB' := Aside0.mk (show Below w.heap.size w wa10 from (q9_));clear HB;have HB:=HB';clear HB' hW;refine (laws_eqNoteS.calls k _ _ x0 _ _ x0 true _ Hx0.out.reads.2.2 Hx0.out.reads.2.1 Ht0.out.reads.2.2 Ht0.out.reads.2.1 H_Fex0.out).mono ?_;rintro e wb10 ⟨rfl,hb⟩;have H' := Aside0.mk (Hx0.out.below hb);clear Hx0;have Hx0:=H';clear H';have H' := Aside0.mk (Hx1.out.below hb);clear Hx1;have Hx1:=H';clear H';have H' := Aside0.mk (Ht0.out.below hb);clear Ht0;have Ht0:=H';clear H';have HB' := Aside0.mk (below_step HB.out hb);clear HB;have HB:=HB';clear HB' hb Ht0;go_wp2_with fail
 refine MOwn.named ?_;intro wa11 hW;have H' := Aside0.mk (Hx0.out.at (W:=wa11) (by subst hW;rfl));clear Hx0;have Hx0:=H';clear H';have H' := Aside0.mk (Hx1.out.at (W:=wa11) (by subst hW;rfl));clear Hx1;have Hx1:=H';clear H';have HB' := Aside0.mk (show Below w.heap.size w wa11 from (q9_));clear HB;have HB:=HB';clear HB' hW;refine (laws_toNoteS.calls k _ _ l1 x1 _ (Kd.C_below HR1.out HB.out) HC1.out H_Fto1.out).mono ?_;rintro e wb11 ⟨vt1,rfl,hot1,hb⟩;obtain ⟨pt1_,hrt1_,hlt1_,htt1_⟩:=MOwn.RR.new hot1 (below_size HB.out);have Sx0_t1:=Aside0.mk (fun k_ (h1 : px0_ k_) (h2 : pt1_ k_)=>Nat.lt_irrefl k_ (Nat.lt_of_lt_of_le (Hx0.out.2 k_ h1) (hlt1_ k_ h2)));have Sx1_t1:=Aside0.mk (fun k_ (h1 : px1_ k_) (h2 : pt1_ k_)=>Nat.lt_irrefl k_ (Nat.lt_of_lt_of_le (Hx1.out.2 k_ h1) (hlt1_ k_ h2)));have Ht1:=Aside0.mk hrt1_;clear hrt1_ hlt1_ hot1 htt1_;have H' := Aside0.mk (Hx0.out.below hb);clear Hx0;have Hx0:=H';clear H';have H' := Aside0.mk (Hx1.out.below hb);clear Hx1;have Hx1:=H';clear H';obtain ⟨At1_,ct1_,rfl⟩:=Ht1.out.form;have HB' := Aside0.mk (below_step HB.out hb);clear HB;have HB:=HB';clear HB' hb;go_wp2_with fail
 refine MOwn.named ?_;intro wa12 hW;have H' := Aside0.mk (Hx0.out.at (W:=wa12) (by subst hW;rfl));clear Hx0;have Hx0:=H';clear H';have H' := Aside0.mk (Hx1.out.at (W:=wa12) (by subst hW;rfl));clear Hx1;have Hx1:=H';clear H';have H' := Aside0.mk (Ht1.out.at (W:=wa12) (by subst hW;rfl));clear Ht1;have Ht1:=H';clear H';have HB' := Aside0.mk (show Below w.heap.size w wa12 from (q9_));clear HB;have HB:=HB';clear HB' hW;refine (laws_eqNoteS.calls k _ _ x1 _ _ x1 true _ Hx1.out.reads.2.2 Hx1.out.reads.2.1 Ht1.out.reads.2.2 Ht1.out.reads.2.1 H_Fex1.out).mono ?_;rintro e wb12 ⟨rfl,hb⟩;have H' := Aside0.mk (Hx0.out.below hb);clear Hx0;have Hx0:=H';clear H';have H' := Aside0.mk (Hx1.out.below hb);clear Hx1;have Hx1:=H';clear H';have H' := Aside0.mk (Ht1.out.below hb);clear Ht1;have Ht1:=H';clear H';have HB' := Aside0.mk (below_step HB.out hb);clear HB;have HB:=HB';clear HB' hb Ht1;go_wp2;go_ret;exact ⟨rfl,q7_⟩
end Go.Proofs.Ytmllkdgdkagkkaa.G
