-- Written by this session's own program over the kit's print (wip/tools/myprint.py); Lean checks it.
import Derived.Test.YtgapcmmhbegdeaaMBase
import Derived.Test.YtgapcmmhbegdeaaG0
import Derived.Test.YtgapcmmhbegdeaaG2
import Derived.Test.YtgapcmmhbegdeaaG5
import Derived.Test.YtgapcmmhbegdeaaG8
import Derived.Test.YtgapcmmhbegdeaaG19
namespace Go.Proofs.Ytgapcmmhbegdeaa.G
open Go.RowKit Go.Proofs.YtgapcmmhbegdeaaW.PrintWords Go.Proofs.YtgapcmmhbegdeaaW.PrintLast Go.Proofs.YtgapcmmhbegdeaaW.PrintMore
attribute [local go_sem] max2_int min2_int max_two min_two max_three min_three max_four min_four str_geq str_gtr str_leq   -- for this text's walks alone
set_option linter.unusedVariables false
set_option linter.unusedSimpArgs false
/-! ### impl_floorDiv: function 183 -/
def impl_floorDiv.f (a0 : Int) (a1 : Int) : Option (Int):=if a1 = 0 then (none) else (if (Int.tmod a0 a1) < 0 then (some (wrap64 ((wrap64 (Int.tdiv a0 a1)) - 1))) else (some (wrap64 (Int.tdiv a0 a1))))
set_option maxHeartbeats 8000000 in
set_option maxRecDepth 100000 in
theorem impl_floorDiv.calls (a0 : Int) (a1 : Int) (r : Int) (w : World) (h : impl_floorDiv.f a0 a1 = some r) :
  Calls Try.prog 183 #[.int .i64 a0,.int .i64 a1] w fun e w' => e = .returned (.int .i64 r) ∧ Drawn0 w w' := by
 have H : (if a1 = 0 then (none) else (if (Int.tmod a0 a1) < 0 then (some (wrap64 ((wrap64 (Int.tdiv a0 a1)) - 1))) else (some (wrap64 (Int.tdiv a0 a1))))) = some r:=h;clear h;by_cases c3 : a1 = 0
 ·rw [if_pos c3] at H;exact absurd H (by simp)
 ·rw [if_neg c3] at H;have c3b0 : (a1 == 0) = false:=beq_eq_false_iff_ne.mpr c3;have c3b1 : (a1 != 0) = true:=bne_iff_ne.mpr c3;by_cases c4 : (Int.tmod a0 a1) < 0
  ·rw [if_pos c4] at H;have c4b0 : decide ((Int.tmod a0 a1) < 0) = true:=decide_eq_true c4;clear c4;obtain rfl:=Option.some.inj H;go_enter Try.func183,Try.ntmps183
   go_wp2;go_ret;exact ⟨q1_,q3_⟩
  ·rw [if_neg c4] at H;have c4b0 : decide ((Int.tmod a0 a1) < 0) = false:=decide_eq_false c4;clear c4;obtain rfl:=Option.some.inj H;go_enter Try.func183,Try.ntmps183
   go_wp2;go_ret;exact ⟨q1_,q3_⟩
/-! ### impl_AgreementBeyond: function 73 -/
def impl_AgreementBeyond.sum (ga : List ByteArray) : List ByteArray → Int → Int
 | [],e=>e
 | s :: gb,e=>impl_AgreementBeyond.sum ga gb (wrap64 (e + MMap.cnt ga s))
theorem impl_AgreementBeyond.sum_snoc (ga : List ByteArray) (s : ByteArray) : ∀ (gb : List ByteArray) (e : Int),impl_AgreementBeyond.sum ga (gb ++ [s]) e = wrap64 (impl_AgreementBeyond.sum ga gb e + MMap.cnt ga s)
 | [],_=>rfl
 | _ :: gb,_=>impl_AgreementBeyond.sum_snoc ga s gb _
def impl_AgreementBeyond.g (n s : Int) (ga gb : List ByteArray) : Option (Int × Bool):=if (ga.all (fun x=>decide (x.size ≤ 140737488355328)) && gb.all (fun x=>decide (x.size ≤ 140737488355328)) && decide (ga.length ≤ 1000) && decide (gb.length ≤ 1000)) = true then (if wrap64 (n * n) = impl_AgreementBeyond.sum ga gb 0 then some (100,true) else (impl_floorDiv.f (wrap64 (100 * (wrap64 ((wrap64 (n * s)) - impl_AgreementBeyond.sum ga gb 0)))) (wrap64 ((wrap64 (n * n)) - impl_AgreementBeyond.sum ga gb 0))).bind fun q=>some (q,true)) else none
def impl_AgreementBeyond.f (k : Nat) (l0 l1 : List S58) (a2 a3 : Int) : Option (Int × Bool):=(impl_IsTier.f k l0).bind fun t=>if t = true then ((impl_IsTier.f k l1).bind fun u=>if u = true then ((impl_isWindow.f a2 a3).bind fun v=>if v = true then ((impl_sameFrames.f k l0 l1 a2 a3).bind fun s=>(impl_frameGlosses.f k l0 a2 a3).bind fun ga=>(impl_frameGlosses.f k l1 a2 a3).bind fun gb=>impl_AgreementBeyond.g (wrap64 (a3 - a2)) s ga gb) else some (0,false)) else some (0,false)) else some (0,false)
theorem impl_AgreementBeyond.all_at {l : List ByteArray} (h : l.all (fun x=>decide (x.size ≤ 140737488355328)) = true) (i : Int) (h0 : 0 ≤ i) (h1 : i < (l.length : Int)) : (l.getD i.toNat ⟨#[]⟩).size ≤ maxLen:=by
 rw [List.all_eq_true] at h;have h2 : i.toNat < l.length:=by omega
 rw [List.getD_eq_getElem?_getD,List.getElem?_eq_getElem h2];have h3:=h _ (List.getElem_mem h2);have h4:=of_decide_eq_true h3;exact Nat.le_trans h4 (by unfold maxLen;omega)
theorem impl_AgreementBeyond.take_at {l : List ByteArray} (i : Int) (h0 : 0 ≤ i) (h1 : i < (l.length : Int)) : l.take (i + 1).toNat = l.take i.toNat ++ [l.getD i.toNat ⟨#[]⟩]:=by
 have h2 : i.toNat < l.length:=by omega
 rw [show (i + 1).toNat = i.toNat + 1 by omega,List.take_succ_eq_append_getElem h2,List.getD_eq_getElem?_getD,List.getElem?_eq_getElem h2];rfl
set_option maxHeartbeats 8000000 in
set_option maxRecDepth 100000 in
theorem impl_AgreementBeyond.calls (k : Nat) (A0 : Option Addr) (c0 : Nat) (l0 : List S58) (A1 : Option Addr) (c1 : Nat) (l1 : List S58) (a2 a3 : Int) (r1 : Int) (r2 : Bool) (w : World) (hr0 : Kd.C k58 w A0 l0.length l0) (hc0 : l0.length ≤ c0) (hr1 : Kd.C k58 w A1 l1.length l1) (hc1 : l1.length ≤ c1) (h : impl_AgreementBeyond.f k l0 l1 a2 a3 = some (r1,r2)) :
  Calls Try.prog 73 #[.slice A0 l0.length c0,.slice A1 l1.length c1,.int .i64 a2,.int .i64 a3] w fun e w' => e = .returned (.tuple #[.int .i64 r1,.bool r2]) ∧ Below w.heap.size w w' := by
 obtain ⟨t,ht,h⟩:=Option.bind_eq_some_iff.mp h;have HR0:=Aside0.mk hr0;have HR1:=Aside0.mk hr1;have HC0:=Aside0.mk hc0;have HC1:=Aside0.mk hc1;have HB:=Aside0.mk (Below.refl w.heap.size w);have HT:=Aside0.mk (fun (W : World) (hb : Below w.heap.size w W)=>impl_IsTier.calls k A0 c0 l0 t W (Kd.C_below HR0.out hb) HC0.out ht);have hmm:=@run_makeMap Try.prog;clear ht hr0 hr1 hc0 hc1;go_enter Try.func73,Try.ntmps73
 go_wp2_with fail
 refine MOwn.named ?_;intro wa hW;have HB1:=Aside0.mk (show Below w.heap.size w wa by exact q22_);clear HB hW;refine (HT.out wa HB1.out).mono ?_;clear HT;rintro e wb ⟨rfl,hb⟩;have HB:=Aside0.mk (below_step HB1.out hb);clear hb HB1;cases t with
 | false =>
  simp only [Bool.false_eq_true,if_false,Option.some.injEq,Prod.mk.injEq] at h;obtain ⟨rfl,rfl⟩:=h;go_wp2;go_ret2
  exact ⟨rfl,q19_⟩
 | true =>
  simp only [if_true] at h;obtain ⟨u,hu,h⟩:=Option.bind_eq_some_iff.mp h;have HU:=Aside0.mk (fun (W : World) (hb : Below w.heap.size w W)=>impl_IsTier.calls k A1 c1 l1 u W (Kd.C_below HR1.out hb) HC1.out hu);clear hu;go_wp2_with fail
  refine MOwn.named ?_;intro wc hW;have HB1:=Aside0.mk (show Below w.heap.size w wc by exact q22_);clear HB hW;refine (HU.out wc HB1.out).mono ?_;clear HU;rintro e wd ⟨rfl,hb⟩;have HB:=Aside0.mk (below_step HB1.out hb);clear hb HB1;cases u with
  | false =>
   simp only [Bool.false_eq_true,if_false,Option.some.injEq,Prod.mk.injEq] at h;obtain ⟨rfl,rfl⟩:=h;go_wp2;go_ret2
   exact ⟨rfl,q19_⟩
  | true =>
   simp only [if_true] at h;obtain ⟨v,hv,h⟩:=Option.bind_eq_some_iff.mp h;have HV:=Aside0.mk hv;clear hv;go_wp2_with fail
   refine MOwn.named ?_;intro we hW;have HB1:=Aside0.mk (show Below w.heap.size w we by exact q22_);clear HB hW;refine (impl_isWindow.calls a2 a3 v we HV.out).mono ?_;clear HV;rintro e wf ⟨rfl,hd⟩;have HB:=Aside0.mk (below_step HB1.out hd.below);clear hd HB1;cases v with
   | false =>
    simp only [Bool.false_eq_true,if_false,Option.some.injEq,Prod.mk.injEq] at h;obtain ⟨rfl,rfl⟩:=h;go_wp2;go_ret2
    exact ⟨rfl,q19_⟩
   | true =>
    simp only [if_true] at h;obtain ⟨s,hs,h1_⟩:=Option.bind_eq_some_iff.mp h;clear h;obtain ⟨ga,hga,h2_⟩:=Option.bind_eq_some_iff.mp h1_;clear h1_;obtain ⟨gb,hgb,h⟩:=Option.bind_eq_some_iff.mp h2_;clear h2_;have HS:=Aside0.mk (fun (W : World) (hb : Below w.heap.size w W)=>impl_sameFrames.calls k A0 c0 l0 A1 c1 l1 a2 a3 s W (Kd.C_below HR0.out hb) HC0.out (Kd.C_below HR1.out hb) HC1.out hs);have HGA:=Aside0.mk (fun (W : World) (hb : Below w.heap.size w W)=>impl_frameGlosses.calls k A0 c0 l0 a2 a3 ga W (Kd.C_below HR0.out hb) HC0.out hga);have HGB:=Aside0.mk (fun (W : World) (hb : Below w.heap.size w W)=>impl_frameGlosses.calls k A1 c1 l1 a2 a3 gb W (Kd.C_below HR1.out hb) HC1.out hgb);unfold impl_AgreementBeyond.g at h
    split at h
    rotate_left
    ·exact absurd h (by simp)
    rename_i hok;simp only [Bool.and_eq_true,decide_eq_true_eq] at hok;have HOK:=Aside0.mk hok;have HH:=Aside0.mk h;clear hs hga hgb h hok;go_wp2_with fail
    refine MOwn.named ?_;intro wg hW;have HB1:=Aside0.mk (show Below w.heap.size w wg by exact q22_);clear HB hW;refine (HS.out wg HB1.out).mono ?_;clear HS;rintro e wh ⟨rfl,hb⟩;have HB:=Aside0.mk (below_step HB1.out hb);clear hb HB1;go_wp2_with fail
    obtain ⟨B,hB⟩ : ∃ B,wh.heap.size = B:=⟨_,rfl⟩;rw [hB];refine MOwn.named ?_;intro wi hW;have HB1:=Aside0.mk (show Below w.heap.size w wi by exact q22_);have hown:=show wi.ownsMap Try.prog 9 (plainElem Try.prog 3) B 0 (.map [] : DataW Unit) by subst hW;rw [← hB];exact World.ownsMap_made _ _ _ _
    have HWB:=Aside0.mk (show w.heap.size ≤ B by have:=HB.out.size;omega);have hlt:=hown.lt;clear HB hW hB;refine (HGA.out wi HB1.out).mono ?_;clear HGA;rintro e wj ⟨v,rfl,ho,hb⟩;have HB:=Aside0.mk (below_step HB1.out hb);have HR:=Aside0.mk (show Kd.R Kd.string 9 wj w.heap.size (fun k=>k ≠ B) v ga from Kd.R_mono (Kd.R_lower (Kd.R_bound ho) HB1.out.size) (fun k hk=>by have:=hk.2.1;omega));have HO:=Aside0.mk (MMap.own_below hown hb);obtain ⟨Ag,cg,rfl⟩:=Kd.R_slice HR.out;clear ho hb HB1 hown hlt;go_wp2;go_loopg [15,46] ga.length (fun gg _ s46 wr=>∃ i : Int,s46 = .int .i64 i ∧ Aside0 (0 ≤ i ∧ i ≤ (ga.length : Int) ∧ (ga.length : Int) - i ≤ (gg : Int)) ∧ Aside0 (∃ D,MMap.Has (ga.take i.toNat) D ∧ wr.ownsMap Try.prog 9 (plainElem Try.prog 3) B i.toNat D) ∧ Aside0 (Kd.R Kd.string 9 wr w.heap.size (fun k=>k ≠ B) (.slice Ag ga.length cg) ga) ∧ Aside0 (Below w.heap.size w wr))
    case atStart=>exact ⟨0,rfl,⟨by omega⟩,⟨_,MMap.Has.start,HO.out⟩,⟨HR.out⟩,⟨HB.out⟩⟩
    case round =>
     clear HO HR HB;obtain ⟨i,rfl,HX,HO,HR,HB⟩:=hrel;by_cases hlt : i < (ga.length : Int)
     ·have p1 : 0 ≤ i:=HX.out.1;obtain ⟨g,cap,he,_⟩:=Kd.R_form HR.out (by omega);obtain ⟨rfl,-,-⟩:=Value.slice.inj he;obtain ⟨ce,hcl,hM,hcc,_⟩:=Kd.R_elem HR.out ⟨#[]⟩ i p1 hlt;obtain ⟨x,hxe⟩ : ∃ x,x = ga.getD i.toNat ⟨#[]⟩:=⟨_,rfl⟩;have hkey : keyOf Try.prog 9 (.string x) = some (MMap.key x):=by rw [hxe];exact Go.WideMaps.keyOf_string_mk Try.underlying9 (impl_AgreementBeyond.all_at HOK.out.1.1.1 i p1 hlt)
      rw [← hxe] at hM;obtain rfl : ce = [.string x]:=hM
      have hx0 : wr.cell? ⟨g,i.toNat,none⟩ = some (.string x):=by
       have:=hcc 0 _ rfl;rw [show i.toNat * Kd.string.sz + 0 = i.toNat from Nat.mul_one _] at this;exact this
      have HTK:=Aside0.mk (impl_AgreementBeyond.take_at i p1 hlt);rw [← hxe] at HTK;have hw : wrap64 (i + 1) = i + 1:=by have:=HOK.out;unfold wrap64;omega
      have HW:=Aside0.mk hw;have HLT:=Aside0.mk hlt;have b1 : decide (i < (ga.length : Int)) = true:=decide_eq_true hlt;clear hcl hcc hxe he hlt hw;replace p1:=eq_true p1;have q1:=eq_true HLT.out;obtain ⟨D,hD,hown⟩:=HO.out;obtain ⟨c,hrun,hat,_⟩:=hown.lookup_int (MMap.law Try.underlying9) Try.underlying170 Try.underlying3 (show (zeroValue 3).run Try.prog wr = .ok (.int .i64 0) wr by kernel_rfl) hkey
      have hc : c = MMap.cnt (ga.take i.toNat) x:=by
       rw [hD.2 x] at hat;injection hat with hat
       injection hat with _ hat
       exact hat.symm
      subst hc
      have HCW:=Aside0.mk (show wrap64 (MMap.cnt (ga.take i.toNat) x + 1) = MMap.cnt (ga.take i.toNat) x + 1 by
       have h1:=MMap.cnt_le (ga.take i.toNat) x;have h2 : (ga.take i.toNat).length ≤ ga.length:=by rw [List.length_take];exact Nat.min_le_right _ _
       have:=HOK.out;unfold wrap64;omega)
      have HD:=Aside0.mk hD;clear hat hD;go_wp2_with (first | (at_mapUpdate;refine wpList_mapUpdate_own _ rfl _ _ _ 170 rfl 9 3 (MMap.law Try.underlying9) Try.underlying170 _ B i.toNat _ rfl hown (by have:=HOK.out;have:=HX.out;unfold maxLen;omega) _ _ _ rfl rfl hkey _ [] (plainElem_int Try.underlying3 (wrap64_wf _)) ?_) | go_in)
      intro w1 hown1 hgrow1;have HO1:=Aside0.mk hown1;have HR1:=Aside0.mk (Kd.R_step HR.out (w1:=w1) (fun k hk hlt=>hgrow1.block k hlt (by simpa using hk)));have HB1:=Aside0.mk (HB.out.grown hgrow1 HB.out.size (fun k hk=>by cases hk;exact HWB.out));clear hown hown1 hgrow1 hrun HO HR HB hx0;go_wp2;go_roundg (ga.length - (i.toNat + 1))
      case measure=>have:=HX.out;have:=HLT.out;omega
      case rel =>
       refine ⟨i + 1,by first | rfl | (rw [HW.out]) | (simp [HW.out]),⟨by have:=HX.out;have:=HLT.out;omega⟩,⟨D.put (MMap.key x) (.lit (.int .i64 (MMap.cnt (ga.take i.toNat) x + 1))),?_,?_⟩,⟨HR1.out⟩,⟨HB1.out⟩⟩;rotate_left
       ·have h1:=HO1.out;rw [HCW.out] at h1;rw [show (i + 1).toNat = i.toNat + 1 by have:=HX.out;omega];exact h1
       ·rw [HTK.out];exact HD.out.step x
     ·have b1 : decide (i < (ga.length : Int)) = false:=decide_eq_false hlt;have hi : i.toNat = ga.length:=by have:=HX.out;omega
      obtain ⟨D,hD,hown⟩:=HO.out;rw [hi,List.take_length] at hD;have HD:=Aside0.mk hD;clear hD hlt HR;go_wp2_with fail
      have HO:=Aside0.mk hown;clear hown;refine (HGB.out _ HB.out).mono ?_;clear HGB;rintro e wl ⟨v,rfl,ho,hb⟩;have HB1:=Aside0.mk (below_step HB.out hb);have hlt:=HO.out.lt;have HR:=Aside0.mk (show Kd.R Kd.string 9 wl w.heap.size (fun k=>k ≠ B) v gb from Kd.R_mono (Kd.R_lower (Kd.R_bound ho) HB.out.size) (fun k hk=>by have:=hk.2.1;omega));have HO1:=Aside0.mk (MMap.own_below HO.out hb);obtain ⟨Ah,ch,rfl⟩:=Kd.R_slice HR.out;clear ho hb HB HO hlt;have HB:=HB1;have HO:=HO1;clear HB1 HO1;go_wp2;go_loopg [12,17,60] gb.length (fun gg s12 _ s60 wr=>∃ i : Int,s12 = .int .i64 (impl_AgreementBeyond.sum ga (gb.take i.toNat) 0) ∧ s60 = .int .i64 i ∧ Aside0 (0 ≤ i ∧ i ≤ (gb.length : Int) ∧ (gb.length : Int) - i ≤ (gg : Int)) ∧ Aside0 (wr.ownsMap Try.prog 9 (plainElem Try.prog 3) B ga.length D) ∧ Aside0 (Kd.R Kd.string 9 wr w.heap.size (fun k=>k ≠ B) (.slice Ah gb.length ch) gb) ∧ Aside0 (Below w.heap.size w wr))
      case atStart=>exact ⟨0,rfl,rfl,⟨by omega⟩,⟨by rw [← hi];exact HO.out⟩,⟨HR.out⟩,⟨HB.out⟩⟩
      case round =>
       clear HO HR HB;obtain ⟨i,rfl,rfl,HX,HO,HR,HB⟩:=hrel;by_cases hlt : i < (gb.length : Int)
       ·have p1 : 0 ≤ i:=HX.out.1;obtain ⟨g,cap,he,_⟩:=Kd.R_form HR.out (by omega);obtain ⟨rfl,-,-⟩:=Value.slice.inj he;obtain ⟨ce,hcl,hM,hcc,_⟩:=Kd.R_elem HR.out ⟨#[]⟩ i p1 hlt;obtain ⟨x,hxe⟩ : ∃ x,x = gb.getD i.toNat ⟨#[]⟩:=⟨_,rfl⟩;have hkey : keyOf Try.prog 9 (.string x) = some (MMap.key x):=by rw [hxe];exact Go.WideMaps.keyOf_string_mk Try.underlying9 (impl_AgreementBeyond.all_at HOK.out.1.1.2 i p1 hlt)
        rw [← hxe] at hM;obtain rfl : ce = [.string x]:=hM
        have hx0 : wr.cell? ⟨g,i.toNat,none⟩ = some (.string x):=by
         have:=hcc 0 _ rfl;rw [show i.toNat * Kd.string.sz + 0 = i.toNat from Nat.mul_one _] at this;exact this
        have HTK:=Aside0.mk (impl_AgreementBeyond.take_at i p1 hlt);rw [← hxe] at HTK;have hw : wrap64 (i + 1) = i + 1:=by have:=HOK.out;unfold wrap64;omega
        have HW:=Aside0.mk hw;have HLT:=Aside0.mk hlt;have b1 : decide (i < (gb.length : Int)) = true:=decide_eq_true hlt;clear hcl hcc hxe he hlt hw;replace p1:=eq_true p1;have q1:=eq_true HLT.out;have hown:=HO.out;obtain ⟨c,hrun,hat,_⟩:=hown.lookup_int (MMap.law Try.underlying9) Try.underlying170 Try.underlying3 (show (zeroValue 3).run Try.prog wr = .ok (.int .i64 0) wr by kernel_rfl) hkey
        have hc : c = MMap.cnt ga x:=by
         rw [HD.out.2 x] at hat;injection hat with hat
         injection hat with _ hat
         exact hat.symm
        subst hc;clear hat hown;go_wp2;go_roundg (gb.length - (i.toNat + 1))
        case measure=>have:=HX.out;have:=HLT.out;omega
        case rel =>
         refine ⟨i + 1,?_,by first | rfl | (rw [HW.out]) | (simp [HW.out]),⟨by have:=HX.out;have:=HLT.out;omega⟩,HO,HR,HB⟩;rw [HTK.out,impl_AgreementBeyond.sum_snoc]
       ·have b2 : decide (i < (gb.length : Int)) = false:=decide_eq_false hlt;have hi2 : i.toNat = gb.length:=by have:=HX.out;omega
        have hsum : impl_AgreementBeyond.sum ga (gb.take i.toNat) 0 = impl_AgreementBeyond.sum ga gb 0:=by rw [hi2,List.take_length]
        rw [hsum];have h:=HH.out;generalize impl_AgreementBeyond.sum ga gb 0 = E at h ⊢;clear hlt HR HO hsum hi2 HH;by_cases hq : wrap64 (wrap64 (a3 - a2) * wrap64 (a3 - a2)) = E
        ·rw [if_pos hq] at h;simp only [Option.some.injEq,Prod.mk.injEq] at h;obtain ⟨rfl,rfl⟩:=h;have b3 : (wrap64 (wrap64 (a3 - a2) * wrap64 (a3 - a2)) == E) = true:=by simp [hq]
         clear hq;go_wp2;go_ret2
         exact ⟨rfl,HB.out⟩
        ·rw [if_neg hq] at h;obtain ⟨qv,hqv,h⟩:=Option.bind_eq_some_iff.mp h;simp only [Option.some.injEq,Prod.mk.injEq] at h;obtain ⟨rfl,rfl⟩:=h;have b3 : (wrap64 (wrap64 (a3 - a2) * wrap64 (a3 - a2)) == E) = false:=by simp [hq]
         have HQ:=Aside0.mk hqv;clear hq hqv;go_wp2_with fail
         refine (impl_floorDiv.calls _ _ qv _ HQ.out).mono ?_;rintro e wm ⟨rfl,hd⟩;have HB1:=Aside0.mk (below_step HB.out hd.below);clear hd HB;go_wp2;go_ret2
         exact ⟨rfl,HB1.out⟩
/-! ### spec_agDown: function 184 -/
def spec_agDown.f (a0 : Int) (a1 : Int) : Option (Int):=if a0 < 0 then (if a1 = 0 then (none) else (some (wrap64 (-(wrap64 (Int.tdiv (wrap64 ((wrap64 ((wrap64 (-a0)) + a1)) - 1)) a1)))))) else (if a1 = 0 then (none) else (some (wrap64 (Int.tdiv a0 a1))))
set_option maxHeartbeats 8000000 in
set_option maxRecDepth 100000 in
theorem spec_agDown.calls (a0 : Int) (a1 : Int) (r : Int) (w : World) (h : spec_agDown.f a0 a1 = some r) :
  Calls Try.prog 184 #[.int .i64 a0,.int .i64 a1] w fun e w' => e = .returned (.int .i64 r) ∧ Drawn0 w w' := by
 have H : (if a0 < 0 then (if a1 = 0 then (none) else (some (wrap64 (-(wrap64 (Int.tdiv (wrap64 ((wrap64 ((wrap64 (-a0)) + a1)) - 1)) a1)))))) else (if a1 = 0 then (none) else (some (wrap64 (Int.tdiv a0 a1))))) = some r:=h;clear h;by_cases c3 : a0 < 0
 ·rw [if_pos c3] at H;have c3b0 : decide (a0 < 0) = true:=decide_eq_true c3;clear c3;by_cases c4 : a1 = 0
  ·rw [if_pos c4] at H;exact absurd H (by simp)
  ·rw [if_neg c4] at H;have c4b0 : (a1 == 0) = false:=beq_eq_false_iff_ne.mpr c4;have c4b1 : (a1 != 0) = true:=bne_iff_ne.mpr c4;obtain rfl:=Option.some.inj H;go_enter Try.func184,Try.ntmps184
   go_wp2;go_ret;exact ⟨q1_,q3_⟩
 ·rw [if_neg c3] at H;have c3b0 : decide (a0 < 0) = false:=decide_eq_false c3;clear c3;by_cases c5 : a1 = 0
  ·rw [if_pos c5] at H;exact absurd H (by simp)
  ·rw [if_neg c5] at H;have c5b0 : (a1 == 0) = false:=beq_eq_false_iff_ne.mpr c5;have c5b1 : (a1 != 0) = true:=bne_iff_ne.mpr c5;obtain rfl:=Option.some.inj H;go_enter Try.func184,Try.ntmps184
   go_wp2;go_ret;exact ⟨q1_,q3_⟩
/-! ### spec_AgreementBeyond: function 74 -/
mutual
def spec_AgreementBeyond.l0 : Nat → List (S58) → List (S58) → Int → Int → Int → Int → Int → Option (Int × Bool)
 | 0,_,_,_,_,_,_,_=>none
 | k + 1,x0,x1,x2,x3,x10,x11,x12=>if x12 < x3 then (spec_AgreementBeyond.l1 k x0 x1 x2 x3 x10 x11 x12 x2) else (if (wrap64 (x10 * x10)) = x11 then (some (100,true)) else ((spec_agSame.f k x0 x1 x2 x3).bind fun t104=>((spec_agDown.f (wrap64 (100 * (wrap64 ((wrap64 (x10 * t104)) - x11)))) (wrap64 ((wrap64 (x10 * x10)) - x11))).bind fun t105=>(some (t105,true)))))
def spec_AgreementBeyond.l1 : Nat → List (S58) → List (S58) → Int → Int → Int → Int → Int → Int → Option (Int × Bool)
 | 0,_,_,_,_,_,_,_,_=>none
 | k + 1,x0,x1,x2,x3,x10,x11,x12,x13=>if x13 < x3 then ((spec_agGloss.f k x0 x12).bind fun t102=>((spec_agGloss.f k x1 x13).bind fun t103=>(if t102.toList = t103.toList then (spec_AgreementBeyond.l1 k x0 x1 x2 x3 x10 (wrap64 (x11 + 1)) x12 (wrap64 (x13 + 1))) else (spec_AgreementBeyond.l1 k x0 x1 x2 x3 x10 x11 x12 (wrap64 (x13 + 1)))))) else (spec_AgreementBeyond.l0 k x0 x1 x2 x3 x10 x11 (wrap64 (x12 + 1)))
end
def spec_AgreementBeyond.f (k : Nat) (l0 : List (S58)) (l1 : List (S58)) (a2 : Int) (a3 : Int) : Option (Int × Bool):=(spec_agAsked.f k l0 l1 a2 a3).bind fun t101=>(if t101 = true then (spec_AgreementBeyond.l0 k l0 l1 a2 a3 (wrap64 (a3 - a2)) 0 a2) else (some (0,false)))
set_option maxHeartbeats 8000000 in
set_option maxRecDepth 100000 in
theorem spec_AgreementBeyond.calls (k : Nat) (A0 : Option Addr) (c0 : Nat) (l0 : List (S58)) (A1 : Option Addr) (c1 : Nat) (l1 : List (S58)) (a2 : Int) (a3 : Int) (r1 : Int) (r2 : Bool) (w : World) (hr0 : Kd.C k58 w A0 l0.length l0) (hc0 : l0.length ≤ c0) (hr1 : Kd.C k58 w A1 l1.length l1) (hc1 : l1.length ≤ c1) (h : spec_AgreementBeyond.f k l0 l1 a2 a3 = some (r1,r2)) :
  Calls Try.prog 74 #[.slice A0 l0.length c0,.slice A1 l1.length c1,.int .i64 a2,.int .i64 a3] w fun e w' => e = .returned (.tuple #[.int .i64 r1,.bool r2]) ∧ Below w.heap.size w w' := by
 have HR0:=Aside0.mk hr0;have HC0:=Aside0.mk hc0;clear hr0 hc0;have HR1:=Aside0.mk hr1;have HC1:=Aside0.mk hc1;clear hr1 hc1;have HB:=Aside0.mk (Below.refl w.heap.size w);have H : ((spec_agAsked.f k l0 l1 a2 a3).bind fun t101=>(if t101 = true then (spec_AgreementBeyond.l0 k l0 l1 a2 a3 (wrap64 (a3 - a2)) 0 a2) else (some (0,false)))) = some (r1,r2):=h;clear h;replace H:=Option.bind_eq_some_iff.mp H;obtain ⟨t101,A50,H⟩:=H;(try dsimp only at H);have A5:=Aside0.mk A50;clear A50;by_cases c6 : t101 = true
 ·subst c6;have H1 : (spec_AgreementBeyond.l0 k l0 l1 a2 a3 (wrap64 (a3 - a2)) 0 a2) = some (r1,r2):=by rw [if_pos rfl] at H;exact H
  clear H;have H:=H1;clear H1;have H' := Aside0.mk H;clear H;go_enter Try.func74,Try.ntmps74
  go_wp2_with (first | ((with_reducible refine gate_callee (f:=124) rfl ?_);refine goesL_ (some 18) rfl rfl Try.func124 (by kernel_rfl) rfl #[.slice A0 l0.length c0,.slice A1 l1.length c1,.int .i64 a2,.int .i64 a3] rfl (q20_) ?_;(with_reducible refine (spec_agAsked.calls k _ _ l0 _ _ l1 a2 a3 true _ ?side1 ?side2 ?side3 ?side4 A5.out).mono ?_);(case side1=>exact cX_ HR0.out);(case side2=>exact HC0.out);(case side3=>exact cX_ HR1.out);(case side4=>exact HC1.out);rintro e w7 ⟨rfl,hb⟩;refine ⟨_,rfl,?_⟩;replace HB:=bS_ HB hb;(try clear hb)))
  go_loopg [11,12] k (fun kq v11 v12 w' => ∃ (x11_1 : Int) (x12_1 : Int),v11 = .int .i64 x11_1 ∧ v12 = .int .i64 x12_1 ∧ Aside0 (spec_AgreementBeyond.l0 kq l0 l1 a2 a3 (wrap64 (a3 - a2)) x11_1 x12_1 = some (r1,r2)) ∧ Aside0 (kq ≤ k) ∧ Aside0 (Below w.heap.size w w'))
  case atStart=>exact ⟨(0),(a2),(q1_),(q1_),H', ⟨Nat.le_refl _⟩,⟨q19_⟩⟩
  case round =>
   clear H';try clear c1
   try clear c6
   obtain ⟨x11_1,x12_1,rfl,rfl,HA,HK1,HB⟩:=hrel;cases gk with
   | zero=>exact absurd HA.out (by simp [spec_AgreementBeyond.l0])
   | succ k1 =>
    have H:=HA.out;clear HA;simp only [spec_AgreementBeyond.l0] at H;by_cases c8 : x12_1 < a3
    ·rw [if_pos c8] at H;have c8b0 : decide (x12_1 < a3) = true:=decide_eq_true c8;clear c8;have H' := Aside0.mk H;clear H;go_wp2;go_loopg [11,13] k1 (fun kq v11 v13 w' => ∃ (x11_2 : Int) (x13_2 : Int),v11 = .int .i64 x11_2 ∧ v13 = .int .i64 x13_2 ∧ Aside0 (spec_AgreementBeyond.l1 kq l0 l1 a2 a3 (wrap64 (a3 - a2)) x11_2 x12_1 x13_2 = some (r1,r2)) ∧ Aside0 (kq ≤ k1) ∧ Aside0 (Below w.heap.size w w'))
     case atStart=>exact ⟨(x11_1),(a2),(q1_),(q1_),H', ⟨Nat.le_refl _⟩,⟨q19_⟩⟩
     case round =>
      clear H';try clear c1
      try clear c6
      try clear c8
      try clear c8b0
      obtain ⟨x11_2,x13_2,rfl,rfl,HA,HK2,HB⟩:=hrel;cases gk with
      | zero=>exact absurd HA.out (by simp [spec_AgreementBeyond.l1])
      | succ k2 =>
       have H:=HA.out;clear HA;simp only [spec_AgreementBeyond.l1] at H;by_cases c9 : x13_2 < a3
       ·rw [if_pos c9] at H;have c9b0 : decide (x13_2 < a3) = true:=decide_eq_true c9;clear c9;replace H:=Option.bind_eq_some_iff.mp H;obtain ⟨t102,A100,H⟩:=H;(try dsimp only at H);have A10:=Aside0.mk A100;clear A100;replace H:=Option.bind_eq_some_iff.mp H;obtain ⟨t103,A110,H⟩:=H;(try dsimp only at H);have A11:=Aside0.mk A110;clear A110;by_cases c12 : t102.toList = t103.toList
        ·rw [if_pos c12] at H;have c12b0 : (t102.toList == t103.toList) = true:=beq_iff_eq.mpr c12;have c12b1 : (t102.toList != t103.toList) = false:=bne_eq_false_iff_eq.mpr c12;clear c12;have H' := Aside0.mk H;clear H;go_wp2_with (first | ((with_reducible refine gate_callee (f:=125) rfl ?_);refine goesL_ (some 37) rfl rfl Try.func125 (by kernel_rfl) rfl #[.slice A0 l0.length c0,.int .i64 x12_1] rfl (q20_) ?_;(with_reducible refine (spec_agGloss.calls k2 _ _ l0 x12_1 t102 _ ?side1 ?side2 A10.out).mono ?_);(case side1=>exact cX_ (Kd.C_below HR0.out HB.out));(case side2=>exact HC0.out);rintro e w13 ⟨rfl,hb⟩;refine ⟨_,rfl,?_⟩;replace HB:=bS_ HB hb;(try clear hb)) | ((with_reducible refine gate_callee (f:=125) rfl ?_);refine goesL_ (some 40) rfl rfl Try.func125 (by kernel_rfl) rfl #[.slice A1 l1.length c1,.int .i64 x13_2] rfl (q20_) ?_;(with_reducible refine (spec_agGloss.calls k2 _ _ l1 x13_2 t103 _ ?side1 ?side2 A11.out).mono ?_);(case side1=>exact cX_ (Kd.C_below HR1.out HB.out));(case side2=>exact HC1.out);rintro e w14 ⟨rfl,hb⟩;refine ⟨_,rfl,?_⟩;replace HB:=bS_ HB hb;(try clear hb)))
         go_roundg k2
         case measure=>have:=HK1.out;have:=HK2.out;omega
         case rel=>exact ⟨(wrap64 (x11_2 + 1)),(wrap64 (x13_2 + 1)),(q1_),(q1_),H', ⟨by have:=HK1.out;have:=HK2.out;omega⟩,⟨q19_⟩⟩
        ·rw [if_neg c12] at H;have c12b0 : (t102.toList == t103.toList) = false:=beq_eq_false_iff_ne.mpr c12;have c12b1 : (t102.toList != t103.toList) = true:=bne_iff_ne.mpr c12;have H' := Aside0.mk H;clear H;go_wp2_with (first | ((with_reducible refine gate_callee (f:=125) rfl ?_);refine goesL_ (some 37) rfl rfl Try.func125 (by kernel_rfl) rfl #[.slice A0 l0.length c0,.int .i64 x12_1] rfl (q20_) ?_;(with_reducible refine (spec_agGloss.calls k2 _ _ l0 x12_1 t102 _ ?side1 ?side2 A10.out).mono ?_);(case side1=>exact cX_ (Kd.C_below HR0.out HB.out));(case side2=>exact HC0.out);rintro e w15 ⟨rfl,hb⟩;refine ⟨_,rfl,?_⟩;replace HB:=bS_ HB hb;(try clear hb)) | ((with_reducible refine gate_callee (f:=125) rfl ?_);refine goesL_ (some 40) rfl rfl Try.func125 (by kernel_rfl) rfl #[.slice A1 l1.length c1,.int .i64 x13_2] rfl (q20_) ?_;(with_reducible refine (spec_agGloss.calls k2 _ _ l1 x13_2 t103 _ ?side1 ?side2 A11.out).mono ?_);(case side1=>exact cX_ (Kd.C_below HR1.out HB.out));(case side2=>exact HC1.out);rintro e w16 ⟨rfl,hb⟩;refine ⟨_,rfl,?_⟩;replace HB:=bS_ HB hb;(try clear hb)))
         go_roundg k2
         case measure=>have:=HK1.out;have:=HK2.out;omega
         case rel=>exact ⟨(x11_2),(wrap64 (x13_2 + 1)),(q1_),(q1_),H', ⟨by have:=HK1.out;have:=HK2.out;omega⟩,⟨q19_⟩⟩
       ·rw [if_neg c9] at H;have c9b0 : decide (x13_2 < a3) = false:=decide_eq_false c9;clear c9;have H' := Aside0.mk H;clear H;go_wp2;go_roundg k2
        case measure=>have:=HK1.out;have:=HK2.out;omega
        case rel=>exact ⟨(x11_2),(wrap64 (x12_1 + 1)),(q1_),(q1_),H', ⟨by have:=HK1.out;have:=HK2.out;omega⟩,⟨q19_⟩⟩
    ·rw [if_neg c8] at H;have c8b0 : decide (x12_1 < a3) = false:=decide_eq_false c8;clear c8;by_cases c17 : (wrap64 ((wrap64 (a3 - a2)) * (wrap64 (a3 - a2)))) = x11_1
     ·rw [if_pos c17] at H;have c17b0 : ((wrap64 ((wrap64 (a3 - a2)) * (wrap64 (a3 - a2)))) == x11_1) = true:=beq_iff_eq.mpr c17;have c17b1 : ((wrap64 ((wrap64 (a3 - a2)) * (wrap64 (a3 - a2)))) != x11_1) = false:=bne_eq_false_iff_eq.mpr c17;clear c17;simp only [Option.some.injEq,Prod.mk.injEq] at H;obtain ⟨rfl,rfl⟩:=H;go_wp2;go_ret2
      exact ⟨q4_,q19_⟩
     ·rw [if_neg c17] at H;have c17b0 : ((wrap64 ((wrap64 (a3 - a2)) * (wrap64 (a3 - a2)))) == x11_1) = false:=beq_eq_false_iff_ne.mpr c17;have c17b1 : ((wrap64 ((wrap64 (a3 - a2)) * (wrap64 (a3 - a2)))) != x11_1) = true:=bne_iff_ne.mpr c17;replace H:=Option.bind_eq_some_iff.mp H;obtain ⟨t104,A180,H⟩:=H;(try dsimp only at H);have A18:=Aside0.mk A180;clear A180;replace H:=Option.bind_eq_some_iff.mp H;obtain ⟨t105,A190,H⟩:=H;(try dsimp only at H);have A19:=Aside0.mk A190;clear A190;simp only [Option.some.injEq,Prod.mk.injEq] at H;obtain ⟨rfl,rfl⟩:=H;go_wp2_with (first | ((with_reducible refine gate_callee (f:=114) rfl ?_);refine goesL_ (some 54) rfl rfl Try.func114 (by kernel_rfl) rfl #[.slice A0 l0.length c0,.slice A1 l1.length c1,.int .i64 a2,.int .i64 a3] rfl (q20_) ?_;(with_reducible refine (spec_agSame.calls k1 _ _ l0 _ _ l1 a2 a3 t104 _ ?side1 ?side2 ?side3 ?side4 A18.out).mono ?_);(case side1=>exact cX_ (Kd.C_below HR0.out HB.out));(case side2=>exact HC0.out);(case side3=>exact cX_ (Kd.C_below HR1.out HB.out));(case side4=>exact HC1.out);rintro e w20 ⟨rfl,hb⟩;refine ⟨_,rfl,?_⟩;replace HB:=bS_ HB hb;(try clear hb)) | ((with_reducible refine gate_callee (f:=184) rfl ?_);refine goesL_ (some 64) rfl rfl Try.func184 (by kernel_rfl) rfl #[.int .i64 (wrap64 (100 * (wrap64 ((wrap64 ((wrap64 (a3 - a2)) * t104)) - x11_1)))),.int .i64 (wrap64 ((wrap64 ((wrap64 (a3 - a2)) * (wrap64 (a3 - a2)))) - x11_1))] rfl (q20_) ?_;(with_reducible refine (spec_agDown.calls (wrap64 (100 * (wrap64 ((wrap64 ((wrap64 (a3 - a2)) * t104)) - x11_1)))) (wrap64 ((wrap64 ((wrap64 (a3 - a2)) * (wrap64 (a3 - a2)))) - x11_1)) t105 _ A19.out).mono ?_);rintro e w' ⟨rfl,⟨nd,rfl⟩⟩;refine ⟨_,rfl,?_⟩))
      go_ret2
      exact ⟨q4_,q19_⟩
 ·replace c6:=Bool.eq_false_iff.mpr c6;subst c6;have H1 : (some (0,false)) = some (r1,r2):=by rw [if_neg (show ¬ (false = true) by decide)] at H;exact H
  clear H;have H:=H1;clear H1;simp only [Option.some.injEq,Prod.mk.injEq] at H;obtain ⟨rfl,rfl⟩:=H;go_enter Try.func74,Try.ntmps74
  go_wp2_with (first | ((with_reducible refine gate_callee (f:=124) rfl ?_);refine goesL_ (some 18) rfl rfl Try.func124 (by kernel_rfl) rfl #[.slice A0 l0.length c0,.slice A1 l1.length c1,.int .i64 a2,.int .i64 a3] rfl (q20_) ?_;(with_reducible refine (spec_agAsked.calls k _ _ l0 _ _ l1 a2 a3 false _ ?side1 ?side2 ?side3 ?side4 A5.out).mono ?_);(case side1=>exact cX_ HR0.out);(case side2=>exact HC0.out);(case side3=>exact cX_ HR1.out);(case side4=>exact HC1.out);rintro e w21 ⟨rfl,hb⟩;refine ⟨_,rfl,?_⟩;replace HB:=bS_ HB hb;(try clear hb)))
  go_ret2
  exact ⟨q4_,q19_⟩
end Go.Proofs.Ytgapcmmhbegdeaa.G
