-- Written by this session's own program over the kit's print (wip/tools/myprint.py); Lean checks it.
import Derived.Test.YtmllkdgdkagkkaaMBase
import Derived.Test.YtmllkdgdkagkkaaG0
import Derived.Test.YtmllkdgdkagkkaaG8
import Derived.Test.YtmllkdgdkagkkaaG32
import Derived.Test.YtmllkdgdkagkkaaG38
import Derived.Test.YtmllkdgdkagkkaaG59
namespace Go.Proofs.Ytmllkdgdkagkkaa.G
open Go.RowKit Go.Proofs.YtmllkdgdkagkkaaW.PrintWords Go.Proofs.YtmllkdgdkagkkaaW.PrintLast Go.Proofs.YtmllkdgdkagkkaaW.PrintMore
attribute [local go_sem] max2_int min2_int max_two min_two max_three min_three max_four min_four str_geq str_gtr str_leq   -- for this text's walks alone
set_option linter.unusedVariables false
set_option linter.unusedSimpArgs false
attribute [local go_sem high] eqA63
/-! ### slices_DeleteFunc_Note: function 109 -/
def slices_DeleteFunc_Note.zc (m : Nat) : List Value:=(Builtin.zeroCells #[.int .i64 0,.int .i64 0,.string ⟨#[]⟩] m).toList
theorem slices_DeleteFunc_Note.zc_succ (m : Nat) : slices_DeleteFunc_Note.zc (m + 1) = .int .i64 0 :: .int .i64 0 :: .string ⟨#[]⟩ :: slices_DeleteFunc_Note.zc m:=by
 unfold slices_DeleteFunc_Note.zc Builtin.zeroCells;have e : (m + 1) * 3 = 3 + m * 3:=by omega
 show ((Array.range ((m + 1) * 3)).map _).toList = _;rw [e];simp [List.range_add,List.map_map];have h : ∀ x,(3 + x) % 3 = x % 3:=fun x=>by omega
 simp only [Function.comp_def,h];rfl
theorem slices_DeleteFunc_Note.zc_length : ∀ m,(slices_DeleteFunc_Note.zc m).length = m * 3
 | 0=>by simp [slices_DeleteFunc_Note.zc,Builtin.zeroCells]
 | m + 1=>by rw [slices_DeleteFunc_Note.zc_succ];simp [slices_DeleteFunc_Note.zc_length m];omega
theorem slices_DeleteFunc_Note.zc_one : ∀ m,∀ v ∈ slices_DeleteFunc_Note.zc m,v.oneCell' = true
 | 0=>by intro v hv;simp [slices_DeleteFunc_Note.zc,Builtin.zeroCells] at hv
 | m + 1=>by
  intro v hv;rw [slices_DeleteFunc_Note.zc_succ] at hv;simp only [List.mem_cons] at hv
  rcases hv with rfl | rfl | rfl | hv
  ·rfl
  ·rfl
  ·rfl
  ·exact slices_DeleteFunc_Note.zc_one m v hv
theorem slices_DeleteFunc_Note.clr {base g n cap : Nat} {ok : Nat → Prop} : ∀ (m i : Nat) (xs : List S63) (W : World),i + m = n → Kd.R k63 63 W base ok (.slice (some ⟨g,0,none⟩) n cap) xs → ∃ ys : List S63,ys.length = n ∧ ys.take i = xs.take i ∧ Kd.R k63 63 (W.setCells g (i * 3) (slices_DeleteFunc_Note.zc m)) base ok (.slice (some ⟨g,0,none⟩) n cap) ys
 | 0,i,xs,W,_,h=>⟨xs,(Kd.R_reads' h).1.symm,rfl,by simpa [slices_DeleteFunc_Note.zc,Builtin.zeroCells,World.setCells] using h⟩
 | m + 1,i,xs,W,hi,h=>by
  have h0 : (0 : Int) ≤ (i : Int):=by omega
  have h1 : (i : Int) < (n : Int):=by omega
  obtain ⟨ce,hcl,hM,hcc,_⟩:=Kd.R_elem h z63 (i : Int) h0 h1;have z:=(Kd.R_seg h (i : Int) h0 h1 (seg:=[.int .i64 0,.int .i64 0,.string ⟨#[]⟩]) (j:=0) hcl hcc (show 0 + 3 ≤ 3 by decide) (x' := z63) (okp:=fun k=>ok k ∧ k ≠ g) (by rw [List.take_zero,List.drop_eq_nil_of_le (by rw [hcl];exact Nat.le_refl 3)];exact k63_mkM _ _ _ z63) (fun _ hk=>hk)).1;obtain ⟨ys,h2,h3,h4⟩:=slices_DeleteFunc_Note.clr m (i + 1) _ _ (by omega) z;refine ⟨ys,h2,?_,?_⟩
  ·have h5:=congrArg (List.take i) h3;rw [List.take_take,List.take_take,Nat.min_eq_left (by omega),List.take_set_of_le (by simp)] at h5;exact h5
  ·rw [slices_DeleteFunc_Note.zc_succ];have e : (i + 1) * 3 = i * 3 + 1 + 1 + 1:=by omega
   rw [e] at h4;exact h4
theorem slices_DeleteFunc_Note.clear {base g n cap : Nat} {ok : Nat → Prop} {xs : List S63} {W : World} (h : Kd.R k63 63 W base ok (.slice (some ⟨g,0,none⟩) n cap) xs) (m i c : Nat) (hi : i + m = n) (hm : 0 < m) (ty : TypeId) :
  (Builtin.clear_ #[26] ty #[.slice (some ⟨g,i * 3,none⟩) m c]).run Try.prog W = .ok (.tuple #[]) (W.setCells g (i * 3) (slices_DeleteFunc_Note.zc m)):=by
 have hcell : ∀ q,q < (slices_DeleteFunc_Note.zc m).length → (W.cell? ⟨g,i * 3 + 0 + q,none⟩).isSome = true ∧ W.frozen? ⟨g,i * 3 + 0 + q,none⟩ = false:=by
  intro q hq;rw [slices_DeleteFunc_Note.zc_length] at hq;obtain ⟨ce,hcl,_,hcc,hfr⟩:=Kd.R_elem h z63 ((i + q / 3 : Nat) : Int) (by omega) (by omega);have e : (((i + q / 3 : Nat) : Int)).toNat * 3 + q % 3 = i * 3 + 0 + q:=by rw [Int.toNat_natCast];omega
  have h1:=hfr (q % 3);have hlt : q % 3 < ce.length:=by rw [hcl];exact Nat.mod_lt _ (by decide)
  have h2:=hcc (q % 3) _ (List.getElem?_eq_getElem hlt);rw [show (k63).sz = 3 from rfl,e] at h1 h2;exact ⟨by rw [h2];rfl,h1⟩
 have hst:=run_storeCells_cells (P:=Try.prog) g (i * 3) (slices_DeleteFunc_Note.zc m) 0 W (fun j hj=>(hcell j hj).1) (fun j hj=>(hcell j hj).2) (slices_DeleteFunc_Note.zc_one m);rw [Nat.add_zero] at hst;obtain ⟨m,rfl⟩ : ∃ k,m = k + 1:=⟨m - 1,by omega⟩
 have hz : (zeroValue 63).run Try.prog W = .ok (.agg #[.int .i64 0,.int .i64 0,.string ⟨#[]⟩]) W:=by
  obtain ⟨i0,hi0,hz0,_,_⟩:=info_parts info63;simp [zeroValue,typeInfo,hi0,hz0,Result.andThen]
 have hst2 : (storeCells ⟨g,i * 3,none⟩ (Builtin.zeroCells (Value.agg #[.int .i64 0,.int .i64 0,.string ⟨#[]⟩]).cells (m + 1)).toList 0).run Try.prog W = .ok () (W.setCells g (i * 3) (slices_DeleteFunc_Note.zc (m + 1))):=hst;simp [Builtin.clear_,run_underlying Try.underlying26,hz,hst2,Result.andThen]
theorem slices_DeleteFunc_Note.filter_none (p : S63 → Bool) (l : List S63) (h : ∀ x,x ∈ l → p x = false) : l.filter (fun x=>!p x) = l:=by
 rw [List.filter_eq_self];intro x hx;rw [h x hx];rfl
theorem slices_DeleteFunc_Note.take_set_next {α : Type} {l : List α} {n : Nat} {y : α} (h : n < l.length) : (l.set n y).take (n + 1) = l.take n ++ [y]:=by
 rw [List.take_succ_eq_append_getElem (by rw [List.length_set];exact h),List.take_set_of_le (Nat.le_refl _)];simp
theorem slices_DeleteFunc_Note.bel {w1 : World} {g : Nat} (hg : w1.heap.size ≤ g) : ∀ (vs : List Value) (o : Nat) (w : World),Below w1.heap.size w1 w → Below w1.heap.size w1 (w.setCells g o vs)
 | [],_,_,h=>h
 | _ :: r,o,_,h=>slices_DeleteFunc_Note.bel hg r (o + 1) _ (below_set h hg)
theorem slices_DeleteFunc_Note.take_next {α : Type} {l : List α} {n : Nat} {y : α} (h : l.drop n = y :: l.drop (n + 1)) : l.take (n + 1) = l.take n ++ [y]:=by
 have hn : n < l.length:=by
  rcases Nat.lt_or_ge n l.length with h1 | h1
  ·exact h1
  ·rw [List.drop_eq_nil_of_le h1] at h;exact absurd h (by simp)
 rw [List.take_succ_eq_append_getElem hn];rw [List.drop_eq_getElem_cons hn] at h;rw [(List.cons.inj h).1]
set_option maxHeartbeats 4000000 in
set_option maxRecDepth 100000 in
theorem slices_DeleteFunc_Note.with (p : S63 → Bool) (g : Nat) (lb : Array Value) (eg : ∀ args w,(callFunc g args).run Try.prog w = .ok (.enter g args) w) (A0 : Option Addr) (c0 : Nat) (l0 : List S63) (w0 w : World) (hB : Below w0.heap.size w0 w) (hr0 : Kd.R k63 63 w w0.heap.size (fun _=>True) (.slice A0 l0.length c0) l0)
  (hp : ∀ (W : World) (x : S63),Below w0.heap.size w0 W → Calls Try.prog g (#[.agg #[.int .i64 x.f0,.int .i64 x.f1,.string x.f2]] ++ lb) W fun e w' => e = .returned (.bool (p x)) ∧ Below W.heap.size W w') :
  Calls Try.prog 109 #[.slice A0 l0.length c0,.func (.func g) #[] lb] w fun e w' => ∃ v,e = .returned v ∧ Kd.R k63 63 w' w0.heap.size (fun _=>True) v (l0.filter (fun x=>!p x)) ∧ Below w0.heap.size w0 w' := by
 have HI:=Aside0.mk (slices_IndexFunc_Note_140.with p g lb eg A0 c0 l0 w (Kd.R_reads' hr0).2.2 (fun W x hb=>(hp W x (hB.trans (hb.mono hB.size))).mono (fun e w' h=>⟨h.1,hb.trans (h.2.mono hb.size)⟩)));have HR:=Aside0.mk hr0;have HP:=Aside0.mk hp;have HB:=Aside0.mk hB;have HL:=Aside0.mk (Kd.R_reads' hr0).2.2.2.1;have HCC:=Aside0.mk (Kd.R_reads' hr0).2.1;obtain ⟨i0,hi0,_,hsz0,_⟩:=info_parts info63;have HI0:=Aside0.mk hi0;have HSZ0:=Aside0.mk hsz0;clear hr0 hp hB hi0 hsz0;go_enter Try.func109,Try.ntmps109
 go_wp2_with fail
 refine HI.out.mono ?_;clear HI;rintro e wa ⟨rfl,hb⟩;have HRA:=Aside0.mk (Kd.R_below HR.out hb);have HBA:=Aside0.mk (HB.out.trans (hb.mono HB.out.size));clear hb HR HB;cases hf : l0.findIdx? p with
 | none =>
  have hall : ∀ x,x ∈ l0 → p x = false:=by simpa using List.findIdx?_eq_none_iff.1 hf
  have hq : idxOf p l0 = -1:=by unfold idxOf;rw [hf]
  rw [hq];have HF:=Aside0.mk (slices_DeleteFunc_Note.filter_none p l0 hall);clear hf hq hall;go_wp2;go_ret;exact ⟨_,rfl,by (with_reducible repeat (first | apply Kd.R_drewN | apply Kd.R_drew));rw [HF.out];exact HRA.out,by repeat (first | (with_reducible first | exact HBA.out | apply pw_below_drewN | apply below_drew1) | exact HBA.out)⟩
 | some m =>
  have hq : idxOf p l0 = (m : Int):=by unfold idxOf;rw [hf]
  rw [hq];obtain ⟨hm,hpm,hbm⟩:=List.findIdx?_eq_some_iff_getElem.1 hf;clear hf hq;have hw0 : wrap64 ((m : Int) + 1) = (m : Int) + 1:=by have:=HL.out;unfold wrap64;omega
  have HW0:=Aside0.mk hw0;have b0 : ((m : Int) == -1) = false:=by simp
  have HM:=Aside0.mk hm
  have HST:=Aside0.mk (show l0.take m = (l0.take (m + 1)).filter (fun x=>!p x) by
   rw [List.take_succ_eq_append_getElem hm,List.filter_append,slices_DeleteFunc_Note.filter_none p (l0.take m) (fun x hx=>by
    obtain ⟨j,hj,rfl⟩:=List.mem_iff_getElem.1 hx;rw [List.length_take] at hj;rw [List.getElem_take]
    simpa using hbm j (by omega))]
   simp [hpm])
  clear hm hpm hbm hw0;obtain ⟨gb,capb,he,hgb,_,_,_⟩:=Kd.R_form HRA.out (by have:=HM.out;omega);obtain ⟨rfl,-,-⟩:=Value.slice.inj he;have HGB:=Aside0.mk hgb;clear he hgb;go_wp2;go_loopg [5,6] l0.length (fun gg s5 s6 wr=>∃ (i j : Int) (cur : List S63),s5 = .int .i64 i ∧ s6 = .int .i64 j ∧ Aside0 (0 ≤ i ∧ i < j ∧ j ≤ (l0.length : Int) ∧ (l0.length : Int) - j ≤ (gg : Int)) ∧ Aside0 (cur.length = l0.length ∧ cur.take i.toNat = (l0.take j.toNat).filter (fun x=>!p x) ∧ cur.drop j.toNat = l0.drop j.toNat) ∧ Aside0 (Kd.R k63 63 wr w0.heap.size (fun _=>True) (.slice (some ⟨gb,0,none⟩) l0.length c0) cur) ∧ Aside0 (Below w0.heap.size w0 wr))
  case atStart=>exact ⟨m,m + 1,l0,rfl,by first | rfl | (rw [HW0.out]) | (simp [HW0.out]),⟨by have:=HM.out;omega⟩,⟨rfl,by rw [Int.toNat_natCast,show ((m : Int) + 1).toNat = m + 1 by omega];exact HST.out,rfl⟩,⟨by (with_reducible repeat (first | apply Kd.R_drewN | apply Kd.R_drew));exact HRA.out⟩,⟨by repeat (first | (with_reducible first | exact HBA.out | apply pw_below_drewN | apply below_drew1) | exact HBA.out)⟩⟩
  case round =>
   clear HRA HBA;obtain ⟨i,j,cur,rfl,rfl,HX,HC,HO,HB⟩:=hrel;by_cases hlt : j < (l0.length : Int)
   ·have p1 : 0 ≤ j:=by have:=HX.out;omega
    have q1:=hlt;have hw : wrap64 (j + 1) = j + 1:=by have:=HL.out;unfold wrap64;omega
    have hwi : wrap64 (i + 1) = i + 1:=by have:=HL.out;have:=HX.out;unfold wrap64;omega
    have HWJ:=Aside0.mk hw;have HWI:=Aside0.mk hwi;have HLT:=Aside0.mk hlt;obtain ⟨y,hdr⟩ : ∃ y,l0.drop j.toNat = y :: l0.drop (j.toNat + 1):=⟨_,List.drop_eq_getElem_cons (show j.toNat < l0.length by omega)⟩
    have hgy : cur.getD j.toNat z63 = y:=by
     have h1:=HC.out.2.2;rw [hdr] at h1;have h2:=congrArg (fun l=>l.getD 0 z63) h1
     simpa [List.getD_eq_getElem?_getD,List.getElem?_drop] using h2
    have HDR:=Aside0.mk hdr;obtain ⟨ce,hcl,hM,hcc,_⟩:=Kd.R_elem HO.out z63 j p1 q1;rw [hgy] at hM;obtain rfl:=k63_openM hM;have hy0 : wr.cell? ⟨gb,j.toNat * 3,none⟩ = some (.int .i64 y.f0):=hcc 0 _ rfl;have hy1 : wr.cell? ⟨gb,j.toNat * 3 + 1,none⟩ = some (.int .i64 y.f1):=hcc 1 _ rfl;have hy2 : wr.cell? ⟨gb,j.toNat * 3 + 2,none⟩ = some (.string y.f2):=hcc 2 _ rfl;have HGY:=Aside0.mk hgy;have b1 : decide (j < (l0.length : Int)) = true:=decide_eq_true hlt;clear hcl hM hcc hlt hdr hgy hw hwi;replace p1:=eq_true p1;replace q1:=eq_true q1;go_wp2_with fail
    refine MOwn.named ?_;intro wa hWa;have HB1:=Aside0.mk (show Below w0.heap.size w0 wa by subst hWa;exact HB.out.alloc HB.out.size _);have HO1:=Aside0.mk (show Kd.R k63 63 wa w0.heap.size (fun _=>True) (.slice (some ⟨gb,0,none⟩) l0.length c0) cur by subst hWa;exact Kd.R_alloc HO.out _);have hv0 : wa.cell? ⟨wr.heap.size,0,none⟩ = some (.int .i64 y.f0):=by subst hWa;simp
    have hv1 : wa.cell? ⟨wr.heap.size,1,none⟩ = some (.int .i64 y.f1):=by subst hWa;simp
    have hv2 : wa.cell? ⟨wr.heap.size,2,none⟩ = some (.string y.f2):=by subst hWa;simp
    have hsz : wr.heap.size < wa.heap.size:=by subst hWa;simp
    have hgv : gb ≠ wr.heap.size:=by
     obtain ⟨_,_,he,_,h3,_⟩:=Kd.R_form HO.out (by have:=HC.out.1;have:=HLT.out;have:=HX.out;omega);injection he with h4 _ _
     injection h4 with h4
     injection h4 with h4 _ _
     omega
    obtain ⟨vb,hvb⟩ : ∃ z,wr.heap.size = z:=⟨_,rfl⟩;rw [hvb] at hv0 hv1 hv2 hsz hgv ⊢;clear hWa hy0 hy1 hy2 hvb HB HO;refine (HP.out wa y HB1.out).mono ?_;rintro e wb ⟨rfl,hb⟩;have HB:=Aside0.mk (HB1.out.trans (hb.mono HB1.out.size));have HO:=Aside0.mk (Kd.R_below HO1.out hb);replace hv0:=(hb.cell (p:=⟨vb,0,none⟩) hsz).trans hv0;replace hv1:=(hb.cell (p:=⟨vb,1,none⟩) hsz).trans hv1;replace hv2:=(hb.cell (p:=⟨vb,2,none⟩) hsz).trans hv2;clear hb hsz HB1 HO1;cases hq : p y with
    | true =>
     have HQ:=Aside0.mk hq;clear hq;go_wp2;go_roundg (l0.length - (j.toNat + 1))
     case measure=>have:=HX.out;have:=HLT.out;omega
     case rel =>
      have hx:=HX.out;have hl:=HLT.out;have hn : (j + 1).toNat = j.toNat + 1:=by omega
      refine ⟨i,j + 1,cur,rfl,by first | rfl | (rw [HWJ.out]) | (simp [HWJ.out]),⟨by omega⟩,⟨HC.out.1,?_,?_⟩,⟨by (with_reducible repeat (first | apply Kd.R_drewN | apply Kd.R_drew));exact HO.out⟩,⟨q13_⟩⟩
      ·rw [hn,HC.out.2.1,slices_DeleteFunc_Note.take_next HDR.out,List.filter_append];simp [HQ.out]
      ·rw [hn];have h1:=congrArg (List.drop 1) HC.out.2.2
       simpa [List.drop_drop] using h1
    | false =>
     have HQ:=Aside0.mk hq;clear hq;have hi0 : 0 ≤ i:=HX.out.1;have hi1 : i < (l0.length : Int):=by have:=HX.out;have:=HLT.out;omega
     obtain ⟨ce,hcl,hM,hcc,hfr⟩:=Kd.R_elem HO.out z63 i hi0 hi1;obtain rfl:=k63_openM hM;have hs0 : wb.cell? ⟨gb,i.toNat * 3,none⟩ = some (.int .i64 (rd_T63 cur i).f0):=hcc 0 _ rfl;have hs1 : wb.cell? ⟨gb,i.toNat * 3 + 1,none⟩ = some (.int .i64 (rd_T63 cur i).f1):=hcc 1 _ rfl;have hs2 : wb.cell? ⟨gb,i.toNat * 3 + 2,none⟩ = some (.string (rd_T63 cur i).f2):=hcc 2 _ rfl;have hf0 : wb.frozen? ⟨gb,i.toNat * 3,none⟩ = false:=hfr 0;have hf1 : wb.frozen? ⟨gb,i.toNat * 3 + 1,none⟩ = false:=hfr 1;have hf2 : wb.frozen? ⟨gb,i.toNat * 3 + 2,none⟩ = false:=hfr 2;have z:=(Kd.R_seg HO.out i hi0 hi1 (seg:=[.int .i64 y.f0,.int .i64 y.f1,.string y.f2]) (j:=0) hcl hcc (show 0 + 3 ≤ 3 by decide) (x' := y) (okp:=fun k=>True ∧ k ≠ gb) (k63_mkM _ _ _ y) (fun _ hk=>hk)).1;have HZ:=Aside0.mk z;clear hcl hM hcc hfr z;have p3:=eq_true hi0;have q3:=eq_true hi1;clear hi0 hi1;go_wp2;clear hs0 hs1 hs2 hf0 hf1 hf2 hv0 hv1 hv2;have HB2:=Aside0.mk (show Below w0.heap.size w0 (((wb.setCell ⟨gb,i.toNat * 3,none⟩ (.int .i64 y.f0)).setCell ⟨gb,i.toNat * 3 + 1,none⟩ (.int .i64 y.f1)).setCell ⟨gb,i.toNat * 3 + 2,none⟩ (.string y.f2)) from below_set (below_set (below_set HB.out HGB.out) HGB.out) HGB.out);have HZ2:=Aside0.mk (show Kd.R k63 63 (((wb.setCell ⟨gb,i.toNat * 3,none⟩ (.int .i64 y.f0)).setCell ⟨gb,i.toNat * 3 + 1,none⟩ (.int .i64 y.f1)).setCell ⟨gb,i.toNat * 3 + 2,none⟩ (.string y.f2)) w0.heap.size (fun _=>True) (.slice (some ⟨gb,0,none⟩) l0.length c0) (cur.set i.toNat y) from HZ.out);clear HZ HB HO;generalize (((wb.setCell ⟨gb,i.toNat * 3,none⟩ (.int .i64 y.f0)).setCell ⟨gb,i.toNat * 3 + 1,none⟩ (.int .i64 y.f1)).setCell ⟨gb,i.toNat * 3 + 2,none⟩ (.string y.f2)) = wz at HZ2 HB2 ⊢;go_roundg (l0.length - (j.toNat + 1))
     case measure=>have:=HX.out;have:=HLT.out;omega
     case rel =>
      have hx:=HX.out;have hl:=HLT.out;have hn : (j + 1).toNat = j.toNat + 1:=by omega
      have hni : (i + 1).toNat = i.toNat + 1:=by omega
      refine ⟨i + 1,j + 1,cur.set i.toNat y,by first | rfl | (rw [HWI.out]) | (simp [HWI.out]),by first | rfl | (rw [HWJ.out]) | (simp [HWJ.out]),⟨by omega⟩,⟨by rw [List.length_set];exact HC.out.1,?_,?_⟩,⟨HZ2.out⟩,⟨HB2.out⟩⟩
      ·rw [hn,hni,slices_DeleteFunc_Note.take_set_next (by rw [HC.out.1];omega),HC.out.2.1,slices_DeleteFunc_Note.take_next HDR.out,List.filter_append];simp [HQ.out]
      ·rw [hn,List.drop_set_of_lt (by omega)];have h1:=congrArg (List.drop 1) HC.out.2.2
       simpa [List.drop_drop] using h1
   ·have b1 : decide (j < (l0.length : Int)) = false:=decide_eq_false hlt;have hjn : j.toNat = l0.length:=by have:=HX.out;omega
    have hi1 : i < (l0.length : Int):=by have:=HX.out;omega
    have hfin : cur.take i.toNat = l0.filter (fun x=>!p x):=by rw [HC.out.2.1,hjn,List.take_length]
    have HFIN:=Aside0.mk hfin;have hi0 : 0 ≤ i:=HX.out.1;obtain ⟨k,hk⟩ : ∃ k : Nat,i = (k : Int):=⟨i.toNat,by omega⟩;subst hk;have hkn : k < l0.length:=by omega
    have hcut1:=cut_from (P:=Try.prog) 26 63 .i64 Try.underlying26 HI0.out _ HSZ0.out (some ⟨gb,0,none⟩) l0.length c0 (k : Int) (by omega) (by omega);have hcut2:=cut_to (P:=Try.prog) 26 63 .i64 Try.underlying26 HI0.out (some ⟨gb,0,none⟩) l0.length c0 (k : Int) (by omega) (by omega) HCC.out;have hcne : ¬ c0 = k:=by have:=HCC.out;omega
    have hadd : (⟨gb,0,none⟩ : Addr).add (k * 3) = ⟨gb,k * 3,none⟩:=by unfold Addr.add;split <;> simp_all
    rw [Int.toNat_natCast,if_neg hcne,Option.map_some,hadd] at hcut1;rw [Int.toNat_natCast] at hcut2;have hcl:=fun ty=>slices_DeleteFunc_Note.clear HO.out (l0.length - k) k (c0 - k) (by omega) (by omega) ty
    obtain ⟨ys,hy1,hy2,hy3⟩:=slices_DeleteFunc_Note.clr (l0.length - k) k cur wr (by omega) HO.out;have HYS:=Aside0.mk hy3;have HY2:=Aside0.mk hy2;have HBZ:=Aside0.mk (show Below w0.heap.size w0 (wr.setCells gb (k * 3) (slices_DeleteFunc_Note.zc (l0.length - k))) from slices_DeleteFunc_Note.bel HGB.out _ _ _ HB.out);have HKY:=Aside0.mk (show k ≤ ys.length by omega);clear hy1 hy2 hy3 hi0 hi1 hkn hcne hadd hjn hfin hlt;go_wp2;go_ret;have z:=Kd.R_take HYS.out HKY.out;rw [HY2.out] at z;exact ⟨_,rfl,by rw [← HFIN.out];exact z,HBZ.out⟩
/-! ### slices_Index_Note: function 141 -/
def slices_Index_Note.l0 : Nat → List (S63) → Int → Int → Int → Int → ByteArray → Option (Int)
 | 0,_,_,_,_,_,_=>none
 | k + 1,x0,x7,x8,x102000,x102001,x102002=>if x8 < x7 then (if 0 ≤ x8 then (if x8 < (x0.length : Int) then (if (x102000 == ((rd_T63 x0 x8).f0) && (x102001 == ((rd_T63 x0 x8).f1) && (x102002.toList == (((rd_T63 x0 x8).f2).toList)))) = true then (some x8) else (slices_Index_Note.l0 k x0 x7 (wrap64 (x8 + 1)) x102000 x102001 x102002)) else (none)) else (none)) else (some (-1))
def slices_Index_Note.f (k : Nat) (l0 : List (S63)) (a1_0 : Int) (a1_1 : Int) (a1_2 : ByteArray) : Option (Int):=slices_Index_Note.l0 k l0 (l0.length : Int) 0 a1_0 a1_1 a1_2
set_option maxHeartbeats 8000000 in
set_option maxRecDepth 100000 in
theorem slices_Index_Note.calls (k : Nat) (A0 : Option Addr) (c0 : Nat) (l0 : List (S63)) (a1_0 : Int) (a1_1 : Int) (a1_2 : ByteArray) (r : Int) (w : World) (hr0 : Kd.C k63 w A0 l0.length l0) (hc0 : l0.length ≤ c0) (h : slices_Index_Note.f k l0 a1_0 a1_1 a1_2 = some r) :
  Calls Try.prog 141 #[.slice A0 l0.length c0,.agg #[.int .i64 a1_0,.int .i64 a1_1,.string a1_2]] w fun e w' => e = .returned (.int .i64 r) ∧ Below w.heap.size w w' := by
 have hu63:=Try.underlying63;have HR0:=Aside0.mk hr0;have HC0:=Aside0.mk hc0;clear hr0 hc0;have HB:=Aside0.mk (Below.refl w.heap.size w);have H : (slices_Index_Note.l0 k l0 (l0.length : Int) 0 a1_0 a1_1 a1_2) = some r:=h;clear h;have H' := Aside0.mk H;clear H;go_enter Try.func141,Try.ntmps141
 go_wp2_with (first | ((with_reducible refine gate_dst (N:=3) rfl ?_);refine box_event ?hg (N:=3) ?hd (cs:=#[.int .i64 a1_0,.int .i64 a1_1,.string a1_2]) (t:=63) ?hr ?_;(case hd=>rfl);(case hg=>rfl);(case hr=>first | (go_simp;done) | (go_simp;rfl));intro gb101 hg w3 hbox hb;have n0_:=Aside0.mk (below_step (q18_) hb);have n1_:=Aside0.mk (hbox);have n2_:=Aside0.mk ((q31_ : w.heap.size ≤ gb101));have n3_:=Aside0.mk ((q31_ : w.heap.size ≤ gb101));clear HB;have HB:=n0_;have BK101:=n1_;have GW101:=n2_;have GE101:=n3_;clear n0_ n1_ n2_ n3_;clear hb hbox hg))
 repeat (go_quiet (first | ((with_reducible refine gate_dst (N:=3) rfl ?_);refine box_event ?hg (N:=3) ?hd (cs:=#[.int .i64 a1_0,.int .i64 a1_1,.string a1_2]) (t:=63) ?hr ?_;(case hd=>rfl);(case hg=>rfl);(case hr=>first | (go_simp;done) | (go_simp;rfl));intro gb101 hg w3 hbox hb;have n0_:=Aside0.mk (below_step (q18_) hb);have n1_:=Aside0.mk (hbox);have n2_:=Aside0.mk ((q31_ : w.heap.size ≤ gb101));have n3_:=Aside0.mk ((q31_ : w.heap.size ≤ gb101));clear HB;have HB:=n0_;have BK101:=n1_;have GW101:=n2_;have GE101:=n3_;clear n0_ n1_ n2_ n3_;clear hb hbox hg));try go_wp2_with (first | ((with_reducible refine gate_dst (N:=3) rfl ?_);refine box_event ?hg (N:=3) ?hd (cs:=#[.int .i64 a1_0,.int .i64 a1_1,.string a1_2]) (t:=63) ?hr ?_;(case hd=>rfl);(case hg=>rfl);(case hr=>first | (go_simp;done) | (go_simp;rfl));intro gb101 hg w3 hbox hb;have n0_:=Aside0.mk (below_step (q18_) hb);have n1_:=Aside0.mk (hbox);have n2_:=Aside0.mk ((q31_ : w.heap.size ≤ gb101));have n3_:=Aside0.mk ((q31_ : w.heap.size ≤ gb101));clear HB;have HB:=n0_;have BK101:=n1_;have GW101:=n2_;have GE101:=n3_;clear n0_ n1_ n2_ n3_;clear hb hbox hg)))
 go_loopg [8] k (fun kq v8 w' => ∃ (x8_1 : Int),v8 = .int .i64 x8_1 ∧ Aside0 (slices_Index_Note.l0 kq l0 (l0.length : Int) x8_1 a1_0 a1_1 a1_2 = some r) ∧ Aside0 (kq ≤ k) ∧ Aside0 (w'.heap[gb101]? = some (.cells #[.int .i64 a1_0,.int .i64 a1_1,.string a1_2] 63 (0,0))) ∧ Aside0 (Below w.heap.size w w'))
 case atStart=>exact ⟨(0),(q2_),H', ⟨Nat.le_refl _⟩,⟨q14_⟩,⟨q22_⟩⟩
 case round =>
  clear H';obtain ⟨x8_1,rfl,HA,HK1,BK101,HB⟩:=hrel;cases gk with
  | zero=>exact absurd HA.out (by simp [slices_Index_Note.l0])
  | succ k1 =>
   have H:=HA.out;clear HA;simp only [slices_Index_Note.l0] at H;by_cases c4 : x8_1 < (l0.length : Int)
   ·rw [if_pos c4] at H;have c4b0 : decide (x8_1 < (l0.length : Int)) = true:=decide_eq_true c4;clear c4;by_cases c5 : 0 ≤ x8_1
    ·rw [if_pos c5] at H;have c5b0 : decide (0 ≤ x8_1) = true:=decide_eq_true c5;clear c5;by_cases c6 : x8_1 < (l0.length : Int)
     ·rw [if_pos c6] at H;have c6b0 : decide (x8_1 < (l0.length : Int)) = true:=decide_eq_true c6;clear c6;by_cases c7 : (a1_0 == ((rd_T63 l0 x8_1).f0) && (a1_1 == ((rd_T63 l0 x8_1).f1) && (a1_2.toList == (((rd_T63 l0 x8_1).f2).toList)))) = true
      ·rw [if_pos c7] at H;have c7b0 : (a1_0 == ((rd_T63 l0 x8_1).f0) && (a1_1 == ((rd_T63 l0 x8_1).f1) && (a1_2.toList == (((rd_T63 l0 x8_1).f2).toList)))) = true:=c7
       (try (have c7b1 : decide (a1_0 = ((rd_T63 l0 x8_1).f0) && (a1_1 == ((rd_T63 l0 x8_1).f1) && (a1_2.toList == (((rd_T63 l0 x8_1).f2).toList)))) = true:=by simpa using c7))
       (try (have c7b2 : (a1_0 == ((rd_T63 l0 x8_1).f0) && (a1_1 == ((rd_T63 l0 x8_1).f1) && (a1_2.toList == (((rd_T63 l0 x8_1).f2).toList)))) = true:=by simpa using c7))
       clear c7;obtain rfl:=Option.some.inj H;have hcz8_0 : wr.cell? ⟨gb101,0,none⟩ = some (.int .i64 a1_0):=(blk_cell BK101.out 0).trans rfl;have hcz8_1 : wr.cell? ⟨gb101,1,none⟩ = some (.int .i64 a1_1):=(blk_cell BK101.out 1).trans rfl;have hcz8_2 : wr.cell? ⟨gb101,2,none⟩ = some (.string a1_2):=(blk_cell BK101.out 2).trans rfl;have hfz8_0:=blk_frozen BK101.out 0;have hfz8_1:=blk_frozen BK101.out 1;have hfz8_2:=blk_frozen BK101.out 2;have p102 : 0 ≤ (x8_1 : Int):=of_decide_eq_true (q3_);have q102 : x8_1 < (l0.length : Int):=of_decide_eq_true (q3_);obtain ⟨ad102,e102,hx102_0,hx102_1,hx102_2⟩:=at_T63 HR0.out x8_1 p102 q102;cases e102;replace hx102_0:=(HB.out.cell (World.block_lt_of_cell? w _ hx102_0)).trans hx102_0;replace hx102_1:=(HB.out.cell (World.block_lt_of_cell? w _ hx102_1)).trans hx102_1;replace hx102_2:=(HB.out.cell (World.block_lt_of_cell? w _ hx102_2)).trans hx102_2;replace p102:=eq_true p102;replace q102:=eq_true q102;go_wp2;repeat (go_quiet (fail);try go_wp2)
       go_ret;exact ⟨q5_,q22_⟩
      ·rw [if_neg c7] at H;have c7b0 : (a1_0 == ((rd_T63 l0 x8_1).f0) && (a1_1 == ((rd_T63 l0 x8_1).f1) && (a1_2.toList == (((rd_T63 l0 x8_1).f2).toList)))) = false:=by simpa using c7
       (try (have c7b1 : decide (a1_0 = ((rd_T63 l0 x8_1).f0) && (a1_1 == ((rd_T63 l0 x8_1).f1) && (a1_2.toList == (((rd_T63 l0 x8_1).f2).toList)))) = false:=by simpa using c7))
       (try (have c7b2 : (a1_0 == ((rd_T63 l0 x8_1).f0) && (a1_1 == ((rd_T63 l0 x8_1).f1) && (a1_2.toList == (((rd_T63 l0 x8_1).f2).toList)))) = false:=by simpa using c7))
       (try (have c7b3 : ¬ (a1_0 = ((rd_T63 l0 x8_1).f0) && (a1_1 == ((rd_T63 l0 x8_1).f1) && (a1_2.toList == (((rd_T63 l0 x8_1).f2).toList)))):=by simpa using c7))
       clear c7;have H' := Aside0.mk H;clear H;have hcz9_0 : wr.cell? ⟨gb101,0,none⟩ = some (.int .i64 a1_0):=(blk_cell BK101.out 0).trans rfl;have hcz9_1 : wr.cell? ⟨gb101,1,none⟩ = some (.int .i64 a1_1):=(blk_cell BK101.out 1).trans rfl;have hcz9_2 : wr.cell? ⟨gb101,2,none⟩ = some (.string a1_2):=(blk_cell BK101.out 2).trans rfl;have hfz9_0:=blk_frozen BK101.out 0;have hfz9_1:=blk_frozen BK101.out 1;have hfz9_2:=blk_frozen BK101.out 2;have p102 : 0 ≤ (x8_1 : Int):=of_decide_eq_true (q3_);have q102 : x8_1 < (l0.length : Int):=of_decide_eq_true (q3_);obtain ⟨ad102,e102,hx102_0,hx102_1,hx102_2⟩:=at_T63 HR0.out x8_1 p102 q102;cases e102;replace hx102_0:=(HB.out.cell (World.block_lt_of_cell? w _ hx102_0)).trans hx102_0;replace hx102_1:=(HB.out.cell (World.block_lt_of_cell? w _ hx102_1)).trans hx102_1;replace hx102_2:=(HB.out.cell (World.block_lt_of_cell? w _ hx102_2)).trans hx102_2;replace p102:=eq_true p102;replace q102:=eq_true q102;go_wp2;repeat (go_quiet (fail);try go_wp2)
       go_roundg k1
       case measure=>have:=HK1.out;omega
       case rel=>exact ⟨(wrap64 (x8_1 + 1)),(q2_),H', ⟨by have:=HK1.out;omega⟩,⟨q14_⟩,⟨q22_⟩⟩
     ·rw [if_neg c6] at H;exact absurd H (by simp)
    ·rw [if_neg c5] at H;exact absurd H (by simp)
   ·rw [if_neg c4] at H;have c4b0 : decide (x8_1 < (l0.length : Int)) = false:=decide_eq_false c4;clear c4;obtain rfl:=Option.some.inj H;go_wp2;repeat (go_quiet (fail);try go_wp2)
    go_ret;exact ⟨q5_,q22_⟩
/-! ### slices_Contains_Note: function 111 -/
def slices_Contains_Note.f (k : Nat) (l0 : List (S63)) (a1_0 : Int) (a1_1 : Int) (a1_2 : ByteArray) : Option (Bool):=(slices_Index_Note.f k l0 a1_0 a1_1 a1_2).bind fun t102=>(some (decide (t102 ≥ 0)))
set_option maxHeartbeats 8000000 in
set_option maxRecDepth 100000 in
theorem slices_Contains_Note.calls (k : Nat) (A0 : Option Addr) (c0 : Nat) (l0 : List (S63)) (a1_0 : Int) (a1_1 : Int) (a1_2 : ByteArray) (r : Bool) (w : World) (hr0 : Kd.C k63 w A0 l0.length l0) (hc0 : l0.length ≤ c0) (h : slices_Contains_Note.f k l0 a1_0 a1_1 a1_2 = some r) :
  Calls Try.prog 111 #[.slice A0 l0.length c0,.agg #[.int .i64 a1_0,.int .i64 a1_1,.string a1_2]] w fun e w' => e = .returned (.bool r) ∧ Below w.heap.size w w' := by
 have hu63:=Try.underlying63;have HR0:=Aside0.mk hr0;have HC0:=Aside0.mk hc0;clear hr0 hc0;have HB:=Aside0.mk (Below.refl w.heap.size w);have H : ((slices_Index_Note.f k l0 a1_0 a1_1 a1_2).bind fun t102=>(some (decide (t102 ≥ 0)))) = some r:=h;clear h;replace H:=Option.bind_eq_some_iff.mp H;obtain ⟨t102,A30,H⟩:=H;replace H : (some (decide (t102 ≥ 0))) = some r:=H;have A3:=Aside0.mk A30;clear A30;obtain rfl:=Option.some.inj H;go_enter Try.func111,Try.ntmps111
 go_wp2_with (first | ((with_reducible refine gate_dst (N:=3) rfl ?_);refine box_event ?hg (N:=3) ?hd (cs:=#[.int .i64 a1_0,.int .i64 a1_1,.string a1_2]) (t:=63) ?hr ?_;(case hd=>rfl);(case hg=>rfl);(case hr=>first | (go_simp;done) | (go_simp;rfl));intro gb101 hg w4 hbox hb;have n0_:=Aside0.mk (below_step (q18_) hb);have n1_:=Aside0.mk (hbox);have n2_:=Aside0.mk ((q31_ : w.heap.size ≤ gb101));have n3_:=Aside0.mk ((q31_ : w.heap.size ≤ gb101));clear HB;have HB:=n0_;have BK101:=n1_;have GW101:=n2_;have GE101:=n3_;clear n0_ n1_ n2_ n3_;clear hb hbox hg;have hcz5_0 : w4.cell? ⟨gb101,0,none⟩ = some (.int .i64 a1_0):=(blk_cell BK101.out 0).trans rfl;have hcz5_1 : w4.cell? ⟨gb101,1,none⟩ = some (.int .i64 a1_1):=(blk_cell BK101.out 1).trans rfl;have hcz5_2 : w4.cell? ⟨gb101,2,none⟩ = some (.string a1_2):=(blk_cell BK101.out 2).trans rfl;have hfz5_0:=blk_frozen BK101.out 0;have hfz5_1:=blk_frozen BK101.out 1;have hfz5_2:=blk_frozen BK101.out 2) | ((with_reducible refine gate_callee (f:=141) rfl ?_);refine goesL_ (some 7) rfl rfl Try.func141 (by kernel_rfl) rfl #[.slice A0 l0.length c0,.agg #[.int .i64 a1_0,.int .i64 a1_1,.string a1_2]] rfl (q19_) ?_;(with_reducible refine (slices_Index_Note.calls k _ _ l0 a1_0 a1_1 a1_2 t102 _ ?side1 ?side2 A3.out).mono ?_);(case side1=>repeat (first | exact (Kd.C_below HR0.out HB.out) | (with_reducible refine Kd.C_alloc ?_ _) | (with_reducible refine Kd.C_drewN ?_ _) | (with_reducible refine Kd.C_drew ?_)));(case side2=>exact HC0.out);rintro e w6 ⟨rfl,hb⟩;refine ⟨_,rfl,?_⟩;have n0_:=Aside0.mk (blk_below (g:=gb101) (o:=.cells #[.int .i64 a1_0,.int .i64 a1_1,.string a1_2] 63 (0,0)) (q14_) hb);have n1_:=Aside0.mk (below_step (q22_) hb);clear BK101;clear HB;have BK101:=n0_;have HB:=n1_;clear n0_ n1_;(try clear hb);(try clear hb2);(try clear hk);(try clear hi)))
 go_ret;exact ⟨q5_,q22_⟩
/-! ### slices_ContainsFunc_Note_157: function 157 -/
set_option maxHeartbeats 4000000 in
set_option maxRecDepth 100000 in
theorem slices_ContainsFunc_Note_157.with (p : S63 → Bool) (g : Nat) (lb : Array Value) (eg : ∀ args w,(callFunc g args).run Try.prog w = .ok (.enter g args) w) (A0 : Option Addr) (c0 : Nat) (l0 : List S63) (w : World) (hr0 : Kd.C k63 w A0 l0.length l0)
  (hp : ∀ (W : World) (x : S63),Below w.heap.size w W → Calls Try.prog g (#[.agg #[.int .i64 x.f0,.int .i64 x.f1,.string x.f2]] ++ lb) W fun e w' => e = .returned (.bool (p x)) ∧ Below w.heap.size w w') :
  Calls Try.prog 157 #[.slice A0 l0.length c0,.func (.func g) #[] lb] w fun e w' => e = .returned (.bool (l0.any p)) ∧ Below w.heap.size w w' := by
 have HC:=Aside0.mk (slices_IndexFunc_Note_140.with p g lb eg A0 c0 l0 w hr0 hp);have HE:=Aside0.mk (MFun.idxOf_any p l0);clear hr0 hp eg;generalize l0.any p = q at HE ⊢;generalize idxOf p l0 = z at HC HE;go_enter Try.func157,Try.ntmps157
 go_wp2_with fail
 refine HC.out.mono ?_;clear HC;rintro e w' ⟨rfl,hb⟩;have HB:=Aside0.mk hb;clear hb;go_wp2;go_ret;exact ⟨by rw [← HE.out];rfl,HB.out⟩
/-! ### impl_peaceful: function 137 -/
def impl_peaceful.conf (x y : S63) : Bool:=decide (x.f0 < y.f1) && decide (y.f0 < x.f1) && (!(x.f0 == y.f0) || (!(x.f1 == y.f1) || (!(x.f2.toList == y.f2.toList))))
def impl_peaceful.p (l : List S63) (x : S63) : Bool:=l.any (impl_peaceful.conf x)
def impl_peaceful.f (l0 l1 : List S63) : Option (List S63):=if l0.length * 32 ≤ 140737488355328 then some (l0.filter (fun x=>!impl_peaceful.p l1 x)) else none
theorem impl_peaceful.test (x y : S63) : impl_conflict.f x.f0 x.f1 x.f2 y.f0 y.f1 y.f2 = some (impl_peaceful.conf x y):=by
 unfold impl_conflict.f impl_peaceful.conf;by_cases h1 : x.f0 < y.f1
 ·by_cases h2 : y.f0 < x.f1
  ·rw [if_pos h1,if_pos h2];simp [h1,h2]
  ·rw [if_pos h1,if_neg h2];simp [h2]
 ·rw [if_neg h1];simp [h1]
set_option maxHeartbeats 4000000 in
set_option maxRecDepth 100000 in
theorem impl_peaceful.pred2 (y : S63) (B : Nat) (w : World) (hB : B < w.heap.size) (h0 : w.cell? ⟨B,0,none⟩ = some (.int .i64 y.f0)) (h1 : w.cell? ⟨B,1,none⟩ = some (.int .i64 y.f1)) (h2 : w.cell? ⟨B,2,none⟩ = some (.string y.f2)) (W : World) (x : S63) (hb : Below w.heap.size w W) :
  Calls Try.prog 158 (#[.agg #[.int .i64 x.f0,.int .i64 x.f1,.string x.f2]] ++ #[.pointer (some ⟨B,0,none⟩)]) W fun e w' => e = .returned (.bool (impl_peaceful.conf y x)) ∧ Below w.heap.size w w' := by
 have g0:=(hb.cell (p:=⟨B,0,none⟩) hB).trans h0;have g1:=(hb.cell (p:=⟨B,1,none⟩) hB).trans h1;have g2:=(hb.cell (p:=⟨B,2,none⟩) hB).trans h2;have hBW : B < W.heap.size:=Nat.lt_of_lt_of_le hB hb.size;have hne : B ≠ W.heap.size:=by omega
 have HB:=Aside0.mk hb;have HT:=Aside0.mk (impl_peaceful.test y x);clear h0 h1 h2 hb hB;generalize impl_peaceful.conf y x = q at HT ⊢;show Calls Try.prog 158 #[.agg #[.int .i64 x.f0,.int .i64 x.f1,.string x.f2],.pointer (some ⟨B,0,none⟩)] W _;go_enter Try.func158,Try.ntmps158
 go_wp2_with fail
 refine (impl_conflict.calls _ _ _ _ _ _ _ _ HT.out).mono ?_;rintro e w' ⟨rfl,hb2⟩;have HB2:=Aside0.mk (HB.out.trans ((((Below.refl _ W).alloc (Nat.le_refl _) _).trans (hb2.mono (by simp)) : Below W.heap.size W w').mono HB.out.size));clear hb2 HT;go_wp2;go_ret;exact ⟨rfl,HB2.out⟩
set_option maxHeartbeats 4000000 in
set_option maxRecDepth 100000 in
theorem impl_peaceful.pred (A1 : Option Addr) (c1 : Nat) (l1 : List S63) (B : Nat) (w : World) (hr1 : Kd.C k63 w A1 l1.length l1) (hB : B < w.heap.size) (hb0 : w.cell? ⟨B,0,none⟩ = some (.slice A1 l1.length c1)) (W : World) (x : S63) (hb : Below w.heap.size w W) :
  Calls Try.prog 156 (#[.agg #[.int .i64 x.f0,.int .i64 x.f1,.string x.f2]] ++ #[.pointer (some ⟨B,0,none⟩)]) W fun e w' => e = .returned (.bool (impl_peaceful.p l1 x)) ∧ Below W.heap.size W w' := by
 have hb1 : W.cell? ⟨B,0,none⟩ = some (.slice A1 l1.length c1):=(hb.cell (p:=⟨B,0,none⟩) hB).trans hb0;have hBW : B < W.heap.size:=Nat.lt_of_lt_of_le hB hb.size;have hne : B ≠ W.heap.size:=by omega
 have eg : ∀ args w,(callFunc 158 args).run Try.prog w = .ok (.enter 158 args) w:=goes_in Try.func158 (by kernel_rfl) rfl;obtain ⟨w1,hw1⟩ : ∃ w1,w1 = W.alloc (.cells #[.int .i64 x.f0,.int .i64 x.f1,.string x.f2] 63):=⟨_,rfl⟩;have HW:=Aside0.mk (show Below W.heap.size W w1 by rw [hw1];exact (Below.refl _ W).alloc (Nat.le_refl _) _)
 have HC:=Aside0.mk (slices_ContainsFunc_Note_157.with (impl_peaceful.conf x) 158 #[.pointer (some ⟨W.heap.size,0,none⟩)] eg A1 c1 l1 w1 (Kd.C_below hr1 (hb.trans (HW.out.mono hb.size)))
  (fun W2 y hb2=>impl_peaceful.pred2 x W.heap.size w1 (by rw [hw1];simp) (by rw [hw1];simp) (by rw [hw1];simp) (by rw [hw1];simp) W2 y hb2))
 clear hb0 hb hB hr1 eg;unfold impl_peaceful.p;generalize l1.any (impl_peaceful.conf x) = q at HC ⊢;show Calls Try.prog 156 #[.agg #[.int .i64 x.f0,.int .i64 x.f1,.string x.f2],.pointer (some ⟨B,0,none⟩)] W _;go_enter Try.func156,Try.ntmps156
 go_wp2_with fail
 rw [← hw1];refine HC.out.mono ?_;rintro e w' ⟨rfl,hb2⟩;have HB2:=Aside0.mk (HW.out.trans (hb2.mono HW.out.size));clear hb2 HC hw1;go_wp2;go_ret;exact ⟨rfl,HB2.out⟩
set_option maxHeartbeats 8000000 in
set_option maxRecDepth 100000 in
theorem impl_peaceful.calls (A0 : Option Addr) (c0 : Nat) (l0 : List S63) (A1 : Option Addr) (c1 : Nat) (l1 : List S63) (r : List S63) (w : World) (hr0 : Kd.C k63 w A0 l0.length l0) (hc0 : l0.length ≤ c0) (hr1 : Kd.C k63 w A1 l1.length l1) (_hc1 : l1.length ≤ c1) (h : impl_peaceful.f l0 l1 = some r) :
  Calls Try.prog 137 #[.slice A0 l0.length c0,.slice A1 l1.length c1] w fun e w' => ∃ v0_ : Value,e = .returned v0_ ∧ Kd.R k63 63 w' w.heap.size (fun _=>True) v0_ r ∧ Below w.heap.size w w' := by
 by_cases hL : l0.length * 32 ≤ 140737488355328
 case neg=>simp [impl_peaceful.f,hL] at h
 rw [impl_peaceful.f,if_pos hL] at h;obtain rfl:=Option.some.inj h;clear h;have eg : ∀ args w,(callFunc 156 args).run Try.prog w = .ok (.enter 156 args) w:=goes_in Try.func156 (by kernel_rfl) rfl;have HCL:=Aside0.mk (show slices_Clone_Note.f l0 = some l0 by rw [slices_Clone_Note.f,if_pos hL]);clear hL;obtain ⟨w1,hw1⟩ : ∃ w1,w1 = w.alloc (.cells #[.slice A1 l1.length c1] 26):=⟨_,rfl⟩;have HW:=Aside0.mk (show Below w.heap.size w w1 by rw [hw1];exact (Below.refl _ w).alloc (Nat.le_refl _) (.cells #[.slice A1 l1.length c1] 26));have HSZ:=Aside0.mk (show w1.heap.size = w.heap.size + 1 by rw [hw1];simp);have HCA:=Aside0.mk (show w1.cell? ⟨w.heap.size,0,none⟩ = some (.slice A1 l1.length c1) by rw [hw1];simp);have HR0:=Aside0.mk (Kd.C_below hr0 HW.out);have HR1:=Aside0.mk (Kd.C_below hr1 HW.out);have HC0:=Aside0.mk hc0
 have HTH:=Aside0.mk (fun (A : Option Addr) (c : Nat) (W : World) (hb : Below w1.heap.size w1 W) (hR : Kd.R k63 63 W w1.heap.size (fun _=>True) (.slice A l0.length c) l0) =>
  slices_DeleteFunc_Note.with (impl_peaceful.p l1) 156 #[.pointer (some ⟨w.heap.size,0,none⟩)] eg A c l0 w1 W hb hR
   (fun W2 x hb2=>impl_peaceful.pred A1 c1 l1 w.heap.size w1 HR1.out (by have:=HSZ.out;omega) HCA.out W2 x hb2))
 have HB:=Aside0.mk (Below.refl w1.heap.size w1);clear hr0 hc0 hr1 eg;go_enter Try.func137,Try.ntmps137
 go_wp2_with fail
 rw [← hw1];clear hw1;refine MOwn.named ?_;intro wd hWd;have HB1:=Aside0.mk (show Below w1.heap.size w1 wd by subst hWd;repeat (first | (with_reducible first | exact HB.out | apply pw_below_drewN | apply below_drew1) | exact HB.out));clear HB hWd;refine (slices_Clone_Note.calls _ c0 l0 l0 wd (Kd.C_below HR0.out HB1.out) HC0.out HCL.out).mono ?_;rintro e we ⟨v,rfl,ho,hb⟩;have HO:=Aside0.mk (Kd.R_lower ho HB1.out.size);have HB:=Aside0.mk (HB1.out.trans (hb.mono HB1.out.size));clear ho hb HB1;obtain ⟨Ao,co,rfl⟩:=Kd.R_slice HO.out;go_wp2_with fail
 refine MOwn.named ?_;intro wf hWf;have HB1:=Aside0.mk (show Below w1.heap.size w1 wf by subst hWf;repeat (first | (with_reducible first | exact HB.out | apply pw_below_drewN | apply below_drew1) | exact HB.out));have HO1:=Aside0.mk (show Kd.R k63 63 wf w1.heap.size (fun _=>True) (.slice Ao l0.length co) l0 by subst hWf;(with_reducible repeat (first | apply Kd.R_drewN | apply Kd.R_drew));exact HO.out);clear HB HO hWf;refine (HTH.out Ao co wf HB1.out HO1.out).mono ?_;rintro e wg ⟨v,rfl,ho,hb⟩;have HO:=Aside0.mk (Kd.R_lower ho HW.out.size);have HB:=Aside0.mk hb;clear ho hb HB1 HO1;go_wp2;go_ret;exact ⟨_,rfl,by (with_reducible repeat (first | apply Kd.R_drewN | apply Kd.R_drew));exact HO.out,HW.out.trans (Below.mono (q13_) HW.out.size)⟩
/-! ### impl_addedTo: function 104 -/
def impl_addedTo.has (l : List S63) (x : S63) : Bool:=l.any (fun y=>x.f0 == y.f0 && (x.f1 == y.f1 && x.f2.toList == y.f2.toList))
def impl_addedTo.p (l : List S63) (x : S63) : Bool:=impl_addedTo.has l x
def impl_addedTo.f (l0 l1 : List S63) : Option (List S63):=(impl_peaceful.f l1 l0).bind fun t=>some (t.filter (fun x=>!impl_addedTo.p l0 x))
theorem impl_addedTo.look (l : List S63) (hl : l.length ≤ 9223372036854775807) (x : S63) : ∀ d j : Nat,j + d = l.length → ∃ r,slices_Index_Note.l0 (d + 1) l (l.length : Int) (j : Int) x.f0 x.f1 x.f2 = some r ∧ decide (r ≥ 0) = impl_addedTo.has (l.drop j) x
 | 0,j,hj=>by
  rw [List.drop_eq_nil_of_le (by omega)];refine ⟨-1,?_,rfl⟩;rw [slices_Index_Note.l0,if_neg (by omega)]
 | d + 1,j,hj=>by
  obtain ⟨r,h1,h2⟩:=impl_addedTo.look l hl x d (j + 1) (by omega);have hw : wrap64 ((j : Int) + 1) = ((j + 1 : Nat) : Int):=by unfold wrap64;omega
  have e : rd_T63 l (j : Int) = l[j]'(by omega):=by
   show l.getD j z63 = _;rw [List.getD_eq_getElem?_getD,List.getElem?_eq_getElem (by omega)];rfl
  rw [slices_Index_Note.l0,if_pos (by omega),if_pos (by omega),if_pos (by omega),hw,h1,List.drop_eq_getElem_cons (show j < l.length by omega),impl_addedTo.has,List.any_cons,← e];by_cases hq : (x.f0 == (rd_T63 l (j : Int)).f0 && (x.f1 == (rd_T63 l (j : Int)).f1 && (x.f2.toList == (rd_T63 l (j : Int)).f2.toList))) = true
  ·rw [if_pos hq,hq];exact ⟨_,rfl,by simp⟩
  ·rw [if_neg hq,Bool.eq_false_iff.2 hq,Bool.false_or];exact ⟨_,rfl,h2⟩
theorem impl_addedTo.contains (l : List S63) (hl : l.length ≤ 9223372036854775807) (x : S63) : slices_Contains_Note.f (l.length + 1) l x.f0 x.f1 x.f2 = some (impl_addedTo.has l x):=by
 obtain ⟨r,h1,h2⟩:=impl_addedTo.look l hl x l.length 0 (by omega);unfold slices_Contains_Note.f slices_Index_Note.f;have h3 : slices_Index_Note.l0 (l.length + 1) l (l.length : Int) 0 x.f0 x.f1 x.f2 = some r:=h1;rw [h3];exact congrArg some h2
set_option maxHeartbeats 4000000 in
set_option maxRecDepth 100000 in
theorem impl_addedTo.pred (A1 : Option Addr) (c1 : Nat) (l1 : List S63) (B : Nat) (w : World) (hr1 : Kd.C k63 w A1 l1.length l1) (hc1 : l1.length ≤ c1) (hB : B < w.heap.size) (hb0 : w.cell? ⟨B,0,none⟩ = some (.slice A1 l1.length c1)) (W : World) (x : S63) (hb : Below w.heap.size w W) :
  Calls Try.prog 138 (#[.agg #[.int .i64 x.f0,.int .i64 x.f1,.string x.f2]] ++ #[.pointer (some ⟨B,0,none⟩)]) W fun e w' => e = .returned (.bool (impl_addedTo.p l1 x)) ∧ Below W.heap.size W w' := by
 have hb1 : W.cell? ⟨B,0,none⟩ = some (.slice A1 l1.length c1):=(hb.cell (p:=⟨B,0,none⟩) hB).trans hb0;have hBW : B < W.heap.size:=Nat.lt_of_lt_of_le hB hb.size;have hne : B ≠ W.heap.size:=by omega
 have HT:=Aside0.mk (impl_addedTo.contains l1 hr1.2.1 x);have HC:=Aside0.mk (show ∀ W2,Below W.heap.size W W2 → Calls Try.prog 111 #[.slice A1 l1.length c1,.agg #[.int .i64 x.f0,.int .i64 x.f1,.string x.f2]] W2 fun e w' => e = .returned (.bool (impl_addedTo.has l1 x)) ∧ Below W2.heap.size W2 w' from fun W2 h2=>slices_Contains_Note.calls _ A1 c1 l1 x.f0 x.f1 x.f2 _ W2 (Kd.C_below hr1 (hb.trans (h2.mono hb.size))) hc1 HT.out);clear hb0 hb hB hr1 hc1 HT;unfold impl_addedTo.p;generalize impl_addedTo.has l1 x = q at HC ⊢;show Calls Try.prog 138 #[.agg #[.int .i64 x.f0,.int .i64 x.f1,.string x.f2],.pointer (some ⟨B,0,none⟩)] W _;go_enter Try.func138,Try.ntmps138
 go_wp2_with fail
 refine (HC.out _ ((Below.refl _ W).alloc (Nat.le_refl _) _)).mono ?_;rintro e w' ⟨rfl,hb2⟩;have HB2:=Aside0.mk (((Below.refl _ W).alloc (Nat.le_refl _) _).trans (hb2.mono (by simp)) : Below W.heap.size W w');clear hb2 HC;go_wp2;go_ret;exact ⟨rfl,HB2.out⟩
set_option maxHeartbeats 8000000 in
set_option maxRecDepth 100000 in
theorem impl_addedTo.calls (A0 : Option Addr) (c0 : Nat) (l0 : List S63) (A1 : Option Addr) (c1 : Nat) (l1 : List S63) (r : List S63) (w : World) (hr0 : Kd.C k63 w A0 l0.length l0) (hc0 : l0.length ≤ c0) (hr1 : Kd.C k63 w A1 l1.length l1) (hc1 : l1.length ≤ c1) (h : impl_addedTo.f l0 l1 = some r) :
  Calls Try.prog 104 #[.slice A0 l0.length c0,.slice A1 l1.length c1] w fun e w' => ∃ v0_ : Value,e = .returned v0_ ∧ Kd.R k63 63 w' w.heap.size (fun _=>True) v0_ r ∧ Below w.heap.size w w' := by
 obtain ⟨t,ht,h⟩:=Option.bind_eq_some_iff.mp h;obtain rfl:=Option.some.inj h;clear h;have eg : ∀ args w,(callFunc 138 args).run Try.prog w = .ok (.enter 138 args) w:=goes_in Try.func138 (by kernel_rfl) rfl;have HPE:=Aside0.mk ht;clear ht;obtain ⟨w1,hw1⟩ : ∃ w1,w1 = w.alloc (.cells #[.slice A0 l0.length c0] 26):=⟨_,rfl⟩;have HW:=Aside0.mk (show Below w.heap.size w w1 by rw [hw1];exact (Below.refl _ w).alloc (Nat.le_refl _) (.cells #[.slice A0 l0.length c0] 26));have HSZ:=Aside0.mk (show w1.heap.size = w.heap.size + 1 by rw [hw1];simp);have hca:=show w1.cell? ⟨w.heap.size,0,none⟩ = some (.slice A0 l0.length c0) by rw [hw1];simp
 have HCA:=Aside0.mk hca;have HR0:=Aside0.mk (Kd.C_below hr0 HW.out);have HR1:=Aside0.mk (Kd.C_below hr1 HW.out);have HC0:=Aside0.mk hc0;have HC1:=Aside0.mk hc1
 have HTH:=Aside0.mk (fun (A : Option Addr) (c : Nat) (W : World) (hb : Below w1.heap.size w1 W) (hR : Kd.R k63 63 W w1.heap.size (fun _=>True) (.slice A t.length c) t) =>
  slices_DeleteFunc_Note.with (impl_addedTo.p l0) 138 #[.pointer (some ⟨w.heap.size,0,none⟩)] eg A c t w1 W hb hR
   (fun W2 x hb2=>impl_addedTo.pred A0 c0 l0 w.heap.size w1 HR0.out HC0.out (by have:=HSZ.out;omega) HCA.out W2 x hb2))
 have HB:=Aside0.mk (Below.refl w1.heap.size w1);rw [← show w.alloc (.cells #[.slice A0 l0.length c0] 26) = w1 from hw1.symm] at hca;clear hr0 hc0 hr1 hc1 eg;go_enter Try.func104,Try.ntmps104
 go_wp2_with fail
 rw [← hw1];clear hw1 hca;refine MOwn.named ?_;intro wd hWd;have HB1:=Aside0.mk (show Below w1.heap.size w1 wd by subst hWd;repeat (first | (with_reducible first | exact HB.out | apply pw_below_drewN | apply below_drew1) | exact HB.out));clear HB hWd;refine (impl_peaceful.calls _ c1 l1 _ c0 l0 t wd (Kd.C_below HR1.out HB1.out) HC1.out (Kd.C_below HR0.out HB1.out) HC0.out HPE.out).mono ?_;rintro e we ⟨v,rfl,ho,hb⟩;have HO:=Aside0.mk (Kd.R_lower ho HB1.out.size);have HB:=Aside0.mk (HB1.out.trans (hb.mono HB1.out.size));clear ho hb HB1;obtain ⟨Ao,co,rfl⟩:=Kd.R_slice HO.out;go_wp2_with fail
 refine MOwn.named ?_;intro wf hWf;have HB1:=Aside0.mk (show Below w1.heap.size w1 wf by subst hWf;repeat (first | (with_reducible first | exact HB.out | apply pw_below_drewN | apply below_drew1) | exact HB.out));have HO1:=Aside0.mk (show Kd.R k63 63 wf w1.heap.size (fun _=>True) (.slice Ao t.length co) t by subst hWf;(with_reducible repeat (first | apply Kd.R_drewN | apply Kd.R_drew));exact HO.out);clear HB HO hWf;refine (HTH.out Ao co wf HB1.out HO1.out).mono ?_;rintro e wg ⟨v,rfl,ho,hb⟩;have HO:=Aside0.mk (Kd.R_lower ho HW.out.size);have HB:=Aside0.mk hb;clear ho hb HB1 HO1;go_wp2;go_ret;exact ⟨_,rfl,by (with_reducible repeat (first | apply Kd.R_drewN | apply Kd.R_drew));exact HO.out,HW.out.trans (Below.mono (q13_) HW.out.size)⟩
end Go.Proofs.Ytmllkdgdkagkkaa.G
