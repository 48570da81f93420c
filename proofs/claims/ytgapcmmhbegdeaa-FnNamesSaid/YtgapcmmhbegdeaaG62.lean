-- Written by this session's own program over the kit's print (wip/tools/myprint.py); Lean checks it.
import Derived.Test.YtgapcmmhbegdeaaMBase
import Derived.Test.YtgapcmmhbegdeaaG0
namespace Go.Proofs.Ytgapcmmhbegdeaa.G
open Go.RowKit Go.Proofs.YtgapcmmhbegdeaaW.PrintWords Go.Proofs.YtgapcmmhbegdeaaW.PrintLast Go.Proofs.YtgapcmmhbegdeaaW.PrintMore
attribute [local go_sem] max2_int min2_int max_two min_two max_three min_three max_four min_four str_geq str_gtr str_leq   -- for this text's walks alone
set_option linter.unusedVariables false
set_option linter.unusedSimpArgs false
/-! ### slices_IndexFunc_Person: function 234 -/
set_option maxHeartbeats 4000000 in
set_option maxRecDepth 100000 in
theorem slices_IndexFunc_Person.with (p : S77 → Bool) (g : Nat) (lb : Array Value) (eg : ∀ args w,(callFunc g args).run Try.prog w = .ok (.enter g args) w) (A0 : Option Addr) (c0 : Nat) (l0 : List S77) (w : World) (hr0 : Kd.C k77 w A0 l0.length l0)
  (hp : ∀ (W : World) (x : S77),Below w.heap.size w W → Calls Try.prog g (#[.agg #[.string x.f0,.int .i64 x.f1,.int .i64 x.f2,.int .i64 x.f3]] ++ lb) W fun e w' => e = .returned (.bool (p x)) ∧ Below w.heap.size w w') :
  Calls Try.prog 234 #[.slice A0 l0.length c0,.func (.func g) #[] lb] w fun e w' => e = .returned (.int .i64 (idxOf p l0)) ∧ Below w.heap.size w w' := by
 have HR:=Aside0.mk hr0;have HP:=Aside0.mk hp;have HL:=Aside0.mk hr0.2.1;clear hr0 hp;go_enter Try.func234,Try.ntmps234
 go_wp2;go_loopg [5,8] l0.length (fun gg _ s8 wr=>∃ x : Int,s8 = .int .i64 x ∧ Aside0 (0 ≤ x ∧ x ≤ (l0.length : Int) ∧ (l0.length : Int) - x ≤ (gg : Int)) ∧ Aside0 (Below w.heap.size w wr) ∧ Aside0 (∀ j,j < x.toNat → p (l0.getD j z77) = false))
 case atStart=>exact ⟨0,rfl,⟨by omega⟩,⟨Below.refl _ w⟩,⟨fun j hj=>absurd hj (Nat.not_lt_zero _)⟩⟩
 case round =>
  obtain ⟨x,rfl,HX,BW,HA⟩:=hrel;by_cases hlt : x < (l0.length : Int)
  ·have p1 : 0 ≤ x:=HX.out.1;have q1:=hlt;have hw : wrap64 (x + 1) = x + 1:=by have:=HL.out;unfold wrap64;omega
   have HW:=Aside0.mk hw;clear hw;obtain ⟨ad,e,hx0,hx1,hx2,hx3⟩:=at_T77 HR.out x p1 q1;cases e;have hcall:=HP.out wr (rd_T77 l0 x) BW.out
   (replace hx0:=(BW.out.cell (World.block_lt_of_cell? w _ hx0)).trans hx0;replace hx1:=(BW.out.cell (World.block_lt_of_cell? w _ hx1)).trans hx1;replace hx2:=(BW.out.cell (World.block_lt_of_cell? w _ hx2)).trans hx2;replace hx3:=(BW.out.cell (World.block_lt_of_cell? w _ hx3)).trans hx3)
   obtain ⟨y,hy⟩ : ∃ y,rd_T77 l0 x = y:=⟨_,rfl⟩;rw [hy] at hx0 hx1 hx2 hx3 hcall;have HY:=Aside0.mk hy;clear hy;have HLT:=Aside0.mk hlt;have b1 : decide (x < (l0.length : Int)) = true:=decide_eq_true hlt;clear hlt;replace p1:=eq_true p1;replace q1:=eq_true q1;cases hq : p y with
   | true =>
    rw [hq] at hcall;have HQ:=Aside0.mk hq;clear hq;have HC:=Aside0.mk hcall;clear hcall;go_wp2_with fail
    refine HC.out.mono ?_;clear HC;rintro e w' ⟨rfl,hb'⟩;have HB' := Aside0.mk hb';clear hb';go_wp2;go_ret;exact ⟨by rw [idxOf_hit z77 (i:=x.toNat) (by have:=HX.out;have:=HLT.out;omega) (by show p (rd_T77 l0 x) = true;rw [HY.out];exact HQ.out) HA.out,Int.toNat_of_nonneg HX.out.1];rfl,HB'.out⟩
   | false =>
    rw [hq] at hcall;have HQ:=Aside0.mk hq;clear hq;have HC:=Aside0.mk hcall;clear hcall;go_wp2_with fail
    refine HC.out.mono ?_;clear HC;rintro e w' ⟨rfl,hb'⟩;have HB' := Aside0.mk hb';clear hb';go_wp2;go_roundg (l0.length - (x.toNat + 1))
    case measure=>have:=HX.out;have:=HLT.out;omega
    case rel =>
     refine ⟨x + 1,by first | rfl | (rw [HW.out]) | (simp [HW.out]),⟨by have:=HX.out;have:=HLT.out;omega⟩,⟨HB'.out⟩,⟨fun j hj=>?_⟩⟩;by_cases e : j = x.toNat
     ·subst e;show p (rd_T77 l0 x) = false;rw [HY.out];exact HQ.out
     ·exact HA.out j (by have:=HX.out;omega)
  ·have b1 : decide (x < (l0.length : Int)) = false:=decide_eq_false hlt;have HLT:=Aside0.mk hlt;clear hlt;go_wp2;go_ret;exact ⟨by rw [idxOf_miss z77 (fun j hj=>HA.out j (by have:=HX.out;have:=HLT.out;omega))];rfl,BW.out⟩
/-! ### slices_ContainsFunc_Person: function 157 -/
set_option maxHeartbeats 4000000 in
set_option maxRecDepth 100000 in
theorem slices_ContainsFunc_Person.with (p : S77 → Bool) (g : Nat) (lb : Array Value) (eg : ∀ args w,(callFunc g args).run Try.prog w = .ok (.enter g args) w) (A0 : Option Addr) (c0 : Nat) (l0 : List S77) (w : World) (hr0 : Kd.C k77 w A0 l0.length l0)
  (hp : ∀ (W : World) (x : S77),Below w.heap.size w W → Calls Try.prog g (#[.agg #[.string x.f0,.int .i64 x.f1,.int .i64 x.f2,.int .i64 x.f3]] ++ lb) W fun e w' => e = .returned (.bool (p x)) ∧ Below w.heap.size w w') :
  Calls Try.prog 157 #[.slice A0 l0.length c0,.func (.func g) #[] lb] w fun e w' => e = .returned (.bool (l0.any p)) ∧ Below w.heap.size w w' := by
 have HC:=Aside0.mk (slices_IndexFunc_Person.with p g lb eg A0 c0 l0 w hr0 hp);have HE:=Aside0.mk (MFun.idxOf_any p l0);clear hr0 hp eg;generalize l0.any p = q at HE ⊢;generalize idxOf p l0 = z at HC HE;go_enter Try.func157,Try.ntmps157
 go_wp2_with fail
 refine HC.out.mono ?_;clear HC;rintro e w' ⟨rfl,hb⟩;have HB:=Aside0.mk hb;clear hb;go_wp2;go_ret;exact ⟨by rw [← HE.out];rfl,HB.out⟩
/-! ### slices_Clone_Person: function 159 -/
def slices_Clone_Person.f (l0 : List S77) : Option (List S77):=if l0.length * 40 ≤ 140737488355328 then some l0 else none
set_option maxHeartbeats 4000000 in
set_option maxRecDepth 100000 in
theorem slices_Clone_Person.calls (A0 : Option Addr) (c0 : Nat) (l0 : List S77) (r : List S77) (w : World) (hr0 : Kd.C k77 w A0 l0.length l0) (hc0 : l0.length ≤ c0) (h : slices_Clone_Person.f l0 = some r) :
  Calls Try.prog 159 #[.slice A0 l0.length c0] w fun e w' => ∃ v0_ : Value,e = .returned (v0_) ∧ Kd.R k77 77 w' w.heap.size (fun _=>True) v0_ r ∧ Below w.heap.size w w' := by
 by_cases hb : l0.length * 40 ≤ 140737488355328
 case neg=>simp [slices_Clone_Person.f,hb] at h
 rw [slices_Clone_Person.f,if_pos hb] at h;obtain rfl:=Option.some.inj h;clear h;have HL:=Aside0.mk hb;have HR:=Aside0.mk hr0;clear hb hr0;cases A0 with
 | none =>
  have e : l0 = []:=by
   rcases Nat.eq_zero_or_pos l0.length with h | h
   ·exact List.eq_nil_of_length_eq_zero h
   ·obtain ⟨ad,he,_⟩:=HR.out.2.2 h;cases he
  subst e;clear HL HR hc0;have hz:=MOwn.eql_nil (P:=Try.prog) 60 77 none 0 c0 Try.underlying60;go_enter Try.func159,Try.ntmps159
  go_wp2;go_ret;exact ⟨_,rfl,Kd.R_nil _ _ _ _ _,Below.refl _ _⟩
 | some ad =>
  clear hc0;have hz:=MOwn.eql_nil (P:=Try.prog) 60 77 (some ad) l0.length c0 Try.underlying60;go_enter Try.func159,Try.ntmps159
  go_wp2_with (first | ((with_reducible refine gate_dst (N:=5) rfl ?_);refine Kd.R_lit k77 _ 77 ?hg (N:=5) ?hd (xs:=([] : List S77)) (inner:=[]) (ok:=fun _=>True) (okp:=fun _=>False) ?hr ?hp (fun _ hk=>hk.elim) trivial (Below.refl _ _) (Nat.le_refl _) (by simp) ?_;(case hd=>rfl);(case hg=>rfl);(case hr=>first | (go_simp;done) | (go_simp;rfl));(case hp=>exact Reps.none _ _);intro v1 w1 ho1 hb1 _ _;have HO1:=Aside0.mk ho1;have HB1:=Aside0.mk hb1;clear ho1 hb1) | ((with_reducible refine gate_builtin (b:=.append) (xs:=#[.tmp 5,.tmp 6]) rfl ?_);at_builtin;refine Kd.R_append_rows k77 (w0:=w) w.heap.size rfl (.tmp 5) (.tmp 6) 60 77 (.agg #[(.string ⟨#[]⟩),(.int .i64 0),(.int .i64 0),(.int .i64 0)]) 40 rfl Try.underlying60 info77 rfl (by decide) (by omega) v1 ([] : List S77) l0 (some ad) l0.length c0 (fun _=>True) (fun _=>False) rfl (by first | (go_simp;done) | (go_simp;rfl)) ?aO ?aR (fun _ _ h=>h) (fun _ h=>h.elim) ?aF ?aB ?aS ?aL ?_;(case aO=>exact HO1.out);(case aR=>exact Kd.C_below HR.out HB1.out);(case aF=>exact (fun _ _=>trivial));(case aB=>exact HB1.out);(case aS=>exact HB1.out.size);(case aL=>have:=HL.out;simpa using this);intro v2 w2 ho2 hb2 _ _;have HO2:=Aside0.mk ho2;have HB2:=Aside0.mk hb2;clear ho2 hb2))
  go_ret;exact ⟨_,rfl,by simpa using HO2.out,HB2.out⟩
/-! ### impl_Person_clashes: function 167 -/
def impl_Person_clashes.f (a0_0 : ByteArray) (a0_1 : Int) (a0_2 : Int) (a0_3 : Int) (a1 : Int) (a2 : Int) : Option (Bool):=if a0_1 = a1 then (some (a0_2 == a2)) else (some false)
set_option maxHeartbeats 8000000 in
set_option maxRecDepth 100000 in
theorem impl_Person_clashes.calls (a0_0 : ByteArray) (a0_1 : Int) (a0_2 : Int) (a0_3 : Int) (a1 : Int) (a2 : Int) (r : Bool) (w : World) (h : impl_Person_clashes.f a0_0 a0_1 a0_2 a0_3 a1 a2 = some r) :
  Calls Try.prog 167 #[.agg #[.string a0_0,.int .i64 a0_1,.int .i64 a0_2,.int .i64 a0_3],.int .i64 a1,.int .i64 a2] w fun e w' => e = .returned (.bool r) ∧ Below w.heap.size w w' := by
 have hu77:=Try.underlying77;have HB:=Aside0.mk (Below.refl w.heap.size w);have H : (if a0_1 = a1 then (some (a0_2 == a2)) else (some false)) = some r:=h;clear h;by_cases c4 : a0_1 = a1
 ·rw [if_pos c4] at H;have c4b0 : (a0_1 == a1) = true:=beq_iff_eq.mpr c4;have c4b1 : (a0_1 != a1) = false:=bne_eq_false_iff_eq.mpr c4;clear c4;obtain rfl:=Option.some.inj H;go_enter Try.func167,Try.ntmps167
  go_wp2_with (first | ((with_reducible refine gate_dst (N:=3) rfl ?_);refine box_event ?hg (N:=3) ?hd (cs:=#[.string a0_0,.int .i64 a0_1,.int .i64 a0_2,.int .i64 a0_3]) (t:=77) ?hr ?_;(case hd=>rfl);(case hg=>rfl);(case hr=>first | (go_simp;done) | (go_simp;rfl));intro gb101 hg w5 hbox hb;have BK101:=Aside0.mk (hbox);have GW101:=Aside0.mk ((q49_ : w.heap.size ≤ gb101));have GE101:=Aside0.mk ((q49_ : w.heap.size ≤ gb101));replace HB:=bS_ HB hb;clear hb hbox hg;have hcz6_0 : w5.cell? ⟨gb101,0,none⟩ = some (.string a0_0):=(blk_cell BK101.out 0).trans rfl;have hcz6_1 : w5.cell? ⟨gb101,1,none⟩ = some (.int .i64 a0_1):=(blk_cell BK101.out 1).trans rfl;have hcz6_2 : w5.cell? ⟨gb101,2,none⟩ = some (.int .i64 a0_2):=(blk_cell BK101.out 2).trans rfl;have hcz6_3 : w5.cell? ⟨gb101,3,none⟩ = some (.int .i64 a0_3):=(blk_cell BK101.out 3).trans rfl;have hfz6_0:=blk_frozen BK101.out 0;have hfz6_1:=blk_frozen BK101.out 1;have hfz6_2:=blk_frozen BK101.out 2;have hfz6_3:=blk_frozen BK101.out 3))
  go_ret;exact ⟨q4_,q26_⟩
 ·rw [if_neg c4] at H;have c4b0 : (a0_1 == a1) = false:=beq_eq_false_iff_ne.mpr c4;have c4b1 : (a0_1 != a1) = true:=bne_iff_ne.mpr c4;obtain rfl:=Option.some.inj H;go_enter Try.func167,Try.ntmps167
  go_wp2_with (first | ((with_reducible refine gate_dst (N:=3) rfl ?_);refine box_event ?hg (N:=3) ?hd (cs:=#[.string a0_0,.int .i64 a0_1,.int .i64 a0_2,.int .i64 a0_3]) (t:=77) ?hr ?_;(case hd=>rfl);(case hg=>rfl);(case hr=>first | (go_simp;done) | (go_simp;rfl));intro gb101 hg w7 hbox hb;have BK101:=Aside0.mk (hbox);have GW101:=Aside0.mk ((q49_ : w.heap.size ≤ gb101));have GE101:=Aside0.mk ((q49_ : w.heap.size ≤ gb101));replace HB:=bS_ HB hb;clear hb hbox hg;have hcz8_0 : w7.cell? ⟨gb101,0,none⟩ = some (.string a0_0):=(blk_cell BK101.out 0).trans rfl;have hcz8_1 : w7.cell? ⟨gb101,1,none⟩ = some (.int .i64 a0_1):=(blk_cell BK101.out 1).trans rfl;have hcz8_2 : w7.cell? ⟨gb101,2,none⟩ = some (.int .i64 a0_2):=(blk_cell BK101.out 2).trans rfl;have hcz8_3 : w7.cell? ⟨gb101,3,none⟩ = some (.int .i64 a0_3):=(blk_cell BK101.out 3).trans rfl;have hfz8_0:=blk_frozen BK101.out 0;have hfz8_1:=blk_frozen BK101.out 1;have hfz8_2:=blk_frozen BK101.out 2;have hfz8_3:=blk_frozen BK101.out 3))
  go_ret;exact ⟨q4_,q26_⟩
/-! ### impl_changes: function 160 -/
def impl_changes.older (y x : S77) : Bool:=decide (x.f1 = y.f1 ∧ x.f2 = y.f2) && decide (x.f3 ≤ y.f3)
def impl_changes.later (y x : S77) : Bool:=decide (x.f1 = y.f1 ∧ x.f2 = y.f2) && decide (x.f3 < y.f3)
def impl_changes.hit (l0 : List S77) (i : Nat) : Bool:=(l0.take i).any (impl_changes.older (l0.getD i z77)) || (l0.drop (i + 1)).any (impl_changes.later (l0.getD i z77))
def impl_changes.upto (l0 : List S77) : Nat → List Int
 | 0=>[]
 | n + 1=>if impl_changes.hit l0 n then impl_changes.upto l0 n ++ [(n : Int)] else impl_changes.upto l0 n
theorem impl_changes.upto_length (l0 : List S77) : ∀ n,(impl_changes.upto l0 n).length ≤ n
 | 0=>Nat.le_refl _
 | n + 1=>by
  have:=impl_changes.upto_length l0 n;rw [impl_changes.upto]
  split
  ·simp;omega
  ·omega
def impl_changes.f (l0 : List S77) : Option (List Int):=if l0.length ≤ 17592186044416 then some (impl_changes.upto l0 l0.length) else none
theorem impl_changes.test (y x : S77) : impl_Person_clashes.f x.f0 x.f1 x.f2 x.f3 y.f1 y.f2 = some (decide (x.f1 = y.f1 ∧ x.f2 = y.f2)):=by
 unfold impl_Person_clashes.f;by_cases h : x.f1 = y.f1
 ·rw [if_pos h];simp [h,Bool.beq_eq_decide_eq]
 ·rw [if_neg h];simp [h]
set_option maxHeartbeats 4000000 in
set_option maxRecDepth 100000 in
theorem impl_changes.pred1 (y : S77) (B : Nat) (w : World) (hB : B < w.heap.size) (g1 : w.cell? ⟨B,1,none⟩ = some (.int .i64 y.f1)) (g2 : w.cell? ⟨B,2,none⟩ = some (.int .i64 y.f2)) (g3 : w.cell? ⟨B,3,none⟩ = some (.int .i64 y.f3)) (W : World) (x : S77) (hb : Below w.heap.size w W) :
  Calls Try.prog 235 (#[.agg #[.string x.f0,.int .i64 x.f1,.int .i64 x.f2,.int .i64 x.f3]] ++ #[.pointer (some ⟨B,0,none⟩)]) W fun e w' => e = .returned (.bool (impl_changes.older y x)) ∧ Below w.heap.size w w' := by
 have hc1 : W.cell? ⟨B,1,none⟩ = some (.int .i64 y.f1):=(hb.cell (p:=⟨B,1,none⟩) hB).trans g1;have hc2 : W.cell? ⟨B,2,none⟩ = some (.int .i64 y.f2):=(hb.cell (p:=⟨B,2,none⟩) hB).trans g2;have hc3 : W.cell? ⟨B,3,none⟩ = some (.int .i64 y.f3):=(hb.cell (p:=⟨B,3,none⟩) hB).trans g3;have hBW : B < W.heap.size:=Nat.lt_of_lt_of_le hB hb.size;have hne : B ≠ W.heap.size:=by omega
 have HT:=Aside0.mk (impl_changes.test y x);have HB:=Aside0.mk hb;have HBW:=Aside0.mk hBW;clear g1 g2 g3 hb hB;show Calls Try.prog 235 #[.agg #[.string x.f0,.int .i64 x.f1,.int .i64 x.f2,.int .i64 x.f3],.pointer (some ⟨B,0,none⟩)] W _;unfold impl_changes.older;obtain ⟨d,hd⟩ : ∃ d,decide (x.f1 = y.f1 ∧ x.f2 = y.f2) = d:=⟨_,rfl⟩;rw [hd] at HT ⊢;clear hd;go_enter Try.func235,Try.ntmps235
 go_wp2_with fail
 refine (impl_Person_clashes.calls _ _ _ _ _ _ _ _ HT.out).mono ?_;rintro e w2 ⟨rfl,hb2⟩;have hx3 : w2.cell? ⟨W.heap.size,3,none⟩ = some (.int .i64 x.f3):=(hb2.cell (p:=⟨W.heap.size,3,none⟩) (by simp)).trans (by simp);have hy3 : w2.cell? ⟨B,3,none⟩ = some (.int .i64 y.f3):=(hb2.cell (p:=⟨B,3,none⟩) (by simp;exact Nat.lt_succ_of_lt HBW.out)).trans ((World.cell?_alloc_lt _ _ _ HBW.out).trans hc3);have HB2:=Aside0.mk hb2;clear hb2 HT;cases d with
 | true =>
  go_wp2;go_ret;exact ⟨by simp,(HB.out.alloc HB.out.size _).trans (HB2.out.mono (by simp;exact Nat.le_succ_of_le HB.out.size))⟩
 | false =>
  go_wp2;go_ret;exact ⟨by simp,(HB.out.alloc HB.out.size _).trans (HB2.out.mono (by simp;exact Nat.le_succ_of_le HB.out.size))⟩
set_option maxHeartbeats 4000000 in
set_option maxRecDepth 100000 in
theorem impl_changes.pred2 (y : S77) (B : Nat) (w : World) (hB : B < w.heap.size) (g1 : w.cell? ⟨B,1,none⟩ = some (.int .i64 y.f1)) (g2 : w.cell? ⟨B,2,none⟩ = some (.int .i64 y.f2)) (g3 : w.cell? ⟨B,3,none⟩ = some (.int .i64 y.f3)) (W : World) (x : S77) (hb : Below w.heap.size w W) :
  Calls Try.prog 236 (#[.agg #[.string x.f0,.int .i64 x.f1,.int .i64 x.f2,.int .i64 x.f3]] ++ #[.pointer (some ⟨B,0,none⟩)]) W fun e w' => e = .returned (.bool (impl_changes.later y x)) ∧ Below w.heap.size w w' := by
 have hc1 : W.cell? ⟨B,1,none⟩ = some (.int .i64 y.f1):=(hb.cell (p:=⟨B,1,none⟩) hB).trans g1;have hc2 : W.cell? ⟨B,2,none⟩ = some (.int .i64 y.f2):=(hb.cell (p:=⟨B,2,none⟩) hB).trans g2;have hc3 : W.cell? ⟨B,3,none⟩ = some (.int .i64 y.f3):=(hb.cell (p:=⟨B,3,none⟩) hB).trans g3;have hBW : B < W.heap.size:=Nat.lt_of_lt_of_le hB hb.size;have hne : B ≠ W.heap.size:=by omega
 have HT:=Aside0.mk (impl_changes.test y x);have HB:=Aside0.mk hb;have HBW:=Aside0.mk hBW;clear g1 g2 g3 hb hB;show Calls Try.prog 236 #[.agg #[.string x.f0,.int .i64 x.f1,.int .i64 x.f2,.int .i64 x.f3],.pointer (some ⟨B,0,none⟩)] W _;unfold impl_changes.later;obtain ⟨d,hd⟩ : ∃ d,decide (x.f1 = y.f1 ∧ x.f2 = y.f2) = d:=⟨_,rfl⟩;rw [hd] at HT ⊢;clear hd;go_enter Try.func236,Try.ntmps236
 go_wp2_with fail
 refine (impl_Person_clashes.calls _ _ _ _ _ _ _ _ HT.out).mono ?_;rintro e w2 ⟨rfl,hb2⟩;have hx3 : w2.cell? ⟨W.heap.size,3,none⟩ = some (.int .i64 x.f3):=(hb2.cell (p:=⟨W.heap.size,3,none⟩) (by simp)).trans (by simp);have hy3 : w2.cell? ⟨B,3,none⟩ = some (.int .i64 y.f3):=(hb2.cell (p:=⟨B,3,none⟩) (by simp;exact Nat.lt_succ_of_lt HBW.out)).trans ((World.cell?_alloc_lt _ _ _ HBW.out).trans hc3);have HB2:=Aside0.mk hb2;clear hb2 HT;cases d with
 | true =>
  go_wp2;go_ret;exact ⟨by simp,(HB.out.alloc HB.out.size _).trans (HB2.out.mono (by simp;exact Nat.le_succ_of_le HB.out.size))⟩
 | false =>
  go_wp2;go_ret;exact ⟨by simp,(HB.out.alloc HB.out.size _).trans (HB2.out.mono (by simp;exact Nat.le_succ_of_le HB.out.size))⟩
set_option maxHeartbeats 8000000 in
set_option maxRecDepth 100000 in
theorem impl_changes.calls (A0 : Option Addr) (c0 : Nat) (l0 : List S77) (r : List Int) (w : World) (hr0 : Kd.C k77 w A0 l0.length l0) (hc0 : l0.length ≤ c0) (h : impl_changes.f l0 = some r) :
  Calls Try.prog 160 #[.slice A0 l0.length c0] w fun e w' => ∃ v0_ : Value,e = .returned (v0_) ∧ Kd.R (Kd.int .i64) 3 w' w.heap.size (fun _=>True) v0_ r ∧ Below w.heap.size w w' := by
 by_cases hlen : l0.length ≤ 17592186044416
 case neg=>simp [impl_changes.f,hlen] at h
 rw [impl_changes.f,if_pos hlen] at h;obtain rfl:=Option.some.inj h;clear h;have eg1:=Aside0.mk (show ∀ args w,(callFunc 235 args).run Try.prog w = .ok (.enter 235 args) w from goes_in Try.func235 (by kernel_rfl) rfl);have eg2:=Aside0.mk (show ∀ args w,(callFunc 236 args).run Try.prog w = .ok (.enter 236 args) w from goes_in Try.func236 (by kernel_rfl) rfl);have HR:=Aside0.mk hr0;have HCC:=Aside0.mk hc0;have HL:=Aside0.mk hlen;clear hr0 hc0 hlen;obtain ⟨i0,hi0,_,hsz0,_⟩:=info_parts info77;have HI0:=Aside0.mk hi0;have HSZ0:=Aside0.mk hsz0;clear hi0 hsz0;go_enter Try.func160,Try.ntmps160
 go_wp2;go_loopg [3,10] l0.length (fun gg s3 s10 wr=>∃ x : Int,s10 = .int .i64 x ∧ Aside0 (0 ≤ x ∧ x ≤ (l0.length : Int) ∧ (l0.length : Int) - x ≤ (gg : Int)) ∧ Aside0 (Kd.R (Kd.int .i64) 3 wr w.heap.size (fun _=>True) s3 (impl_changes.upto l0 x.toNat)) ∧ Aside0 (Below w.heap.size w wr))
 case atStart=>exact ⟨0,rfl,⟨by omega⟩,⟨Kd.R_nil _ _ _ _ _⟩,⟨Below.refl _ w⟩⟩
 case round =>
  obtain ⟨x,rfl,HX,HO,HB⟩:=hrel;by_cases hlt : x < (l0.length : Int)
  ·have p1 : 0 ≤ x:=HX.out.1;have q1:=hlt;have hw : wrap64 (x + 1) = x + 1:=by have:=HL.out;unfold wrap64;omega
   have HW:=Aside0.mk hw;obtain ⟨ad,e,hx0,hx1,hx2,hx3⟩:=at_T77 (Kd.C_below HR.out HB.out) x p1 q1;cases e;obtain ⟨y,hy⟩ : ∃ y,rd_T77 l0 x = y:=⟨_,rfl⟩;rw [hy] at hx0 hx1 hx2 hx3;have HY:=Aside0.mk hy;clear hy;have HLT:=Aside0.mk hlt;have b1 : decide (x < (l0.length : Int)) = true:=decide_eq_true hlt;have hcut1:=cut_to (P:=Try.prog) 60 77 .i64 Try.underlying60 HI0.out (some ad) l0.length c0 x p1 (by omega) HCC.out;have hcut2:=cut_from (P:=Try.prog) 60 77 .i64 Try.underlying60 HI0.out _ HSZ0.out (some ad) l0.length c0 (x + 1) (by omega) (by omega);obtain ⟨l1,hl1⟩ : ∃ l1,l1 = l0.take x.toNat:=⟨_,rfl⟩;obtain ⟨l2,hl2⟩ : ∃ l2,l2 = l0.drop (x.toNat + 1):=⟨_,rfl⟩;have HT1:=Aside0.mk (fun (W : World) (hb : Below w.heap.size w W)=>(by rw [hl1];exact Kd.C_take (m:=x.toNat) (Kd.C_below HR.out hb) (by omega) : Kd.C k77 W (some ad) l1.length l1));have HT2:=Aside0.mk (fun (W : World) (hb : Below w.heap.size w W)=>(by rw [hl2];exact Kd.C_drop (m:=x.toNat + 1) (c:=c0) (Kd.C_below HR.out hb) (by omega) HCC.out : Kd.C k77 W (if c0 = x.toNat + 1 then some ad else (some ad).map (·.add ((x.toNat + 1) * (k77).sz))) l2.length l2));have hy1 : l1.length = x.toNat:=by rw [hl1,List.length_take];omega
   have hy2 : l2.length = l0.length - (x.toNat + 1):=by rw [hl2];exact List.length_drop
   have hx1 : (x + 1).toNat = x.toNat + 1:=by omega
   rw [← hy1] at hcut1;rw [hx1,← hy2] at hcut2;obtain ⟨A2,hA2⟩ : ∃ A2,A2 = (if c0 = x.toNat + 1 then some ad else (some ad).map (·.add ((x.toNat + 1) * (k77).sz))):=⟨_,rfl⟩;rw [← hA2] at HT2;replace hcut2 : ∀ W : World,(Instr.slice 60 (.slice (some ad) l0.length c0) (some (.int .i64 (x + 1))) none none).run Try.prog W = .ok (.slice A2 l2.length (c0 - (x.toNat + 1))) W:=by rw [hA2];exact hcut2
   have HCC1:=Aside0.mk (show l1.length ≤ c0 by have:=HCC.out;omega);have HHIT:=Aside0.mk (show impl_changes.hit l0 x.toNat = (l1.any (impl_changes.older y) || l2.any (impl_changes.later y)) by unfold impl_changes.hit;rw [show l0.getD x.toNat z77 = y from HY.out,hl1,hl2]);have HN:=Aside0.mk (impl_changes.upto_length l0 x.toNat);have hp2 : 0 ≤ x + 1:=by omega
   clear hlt hy1 hy2 hx1 hl1 hl2 hA2;replace p1:=eq_true p1;replace q1:=eq_true q1;go_wp2_with fail
   have hb1:=HB.out.alloc HB.out.size (.cells #[.string y.f0,.int .i64 y.f1,.int .i64 y.f2,.int .i64 y.f3] 77);have hs0:=HB.out.size;refine (slices_ContainsFunc_Person.with (impl_changes.older y) 235 #[.pointer (some ⟨wr.heap.size,0,none⟩)] eg1.out (some ad) c0 l1 _ (HT1.out _ hb1) (fun W z hb=>impl_changes.pred1 y wr.heap.size _ (by simp) (by simp) (by simp) (by simp) W z hb)).mono ?_;rintro e w2 ⟨rfl,hb2⟩;have HB2:=Aside0.mk (hb1.trans (hb2.mono (by simp;omega)));have k1 : w2.cell? ⟨wr.heap.size,1,none⟩ = some (.int .i64 y.f1):=(hb2.cell (p:=⟨wr.heap.size,1,none⟩) (by simp)).trans (by simp);have k2 : w2.cell? ⟨wr.heap.size,2,none⟩ = some (.int .i64 y.f2):=(hb2.cell (p:=⟨wr.heap.size,2,none⟩) (by simp)).trans (by simp);have k3 : w2.cell? ⟨wr.heap.size,3,none⟩ = some (.int .i64 y.f3):=(hb2.cell (p:=⟨wr.heap.size,3,none⟩) (by simp)).trans (by simp);have klt : wr.heap.size < w2.heap.size:=Nat.lt_of_lt_of_le (by simp) hb2.size;have HK1:=Aside0.mk k1;have HK2:=Aside0.mk k2;have HK3:=Aside0.mk k3;have HKL:=Aside0.mk klt;have HO2:=Aside0.mk (Kd.R_below (w1:=w2) (by (with_reducible repeat (first | apply Kd.R_alloc | apply Kd.R_drewN | apply Kd.R_drew));exact HO.out : Kd.R (Kd.int .i64) 3 (wr.alloc (.cells #[.string y.f0,.int .i64 y.f1,.int .i64 y.f2,.int .i64 y.f3] 77)) w.heap.size (fun _=>True) u3 (impl_changes.upto l0 x.toNat)) hb2);clear hb1 hs0 hb2 k1 k2 k3 klt HO HB;obtain ⟨d1,hd1⟩ : ∃ d,l1.any (impl_changes.older y) = d:=⟨_,rfl⟩;rw [hd1] at HHIT ⊢;clear hd1;go_wp2_with fail
   refine MOwn.named ?_;intro w3 hW3;have HB2' := Aside0.mk (show Below w.heap.size w w3 by subst hW3;repeat (first | (with_reducible first | exact HB2.out | apply pw_below_drewN | apply below_drew1) | exact HB2.out));have HO2' := Aside0.mk (Kd.R_step (w1:=w3) HO2.out (fun k _ _=>by subst hW3;rfl));have HKS:=Aside0.mk (show w3.cell? ⟨wr.heap.size,1,none⟩ = some (.int .i64 y.f1) ∧ w3.cell? ⟨wr.heap.size,2,none⟩ = some (.int .i64 y.f2) ∧ w3.cell? ⟨wr.heap.size,3,none⟩ = some (.int .i64 y.f3) ∧ wr.heap.size < w3.heap.size by subst hW3;exact ⟨HK1.out,HK2.out,HK3.out,HKL.out⟩);clear HB2 HO2 HK1 HK2 HK3 HKL hW3;refine (slices_ContainsFunc_Person.with (impl_changes.later y) 236 #[.pointer (some ⟨wr.heap.size,0,none⟩)] eg2.out A2 (c0 - (x.toNat + 1)) l2 w3 (HT2.out _ HB2'.out) (fun W z hb=>impl_changes.pred2 y wr.heap.size w3 HKS.out.2.2.2 HKS.out.1 HKS.out.2.1 HKS.out.2.2.1 W z hb)).mono ?_;rintro e w4' ⟨rfl,hb3⟩;have HB3:=Aside0.mk (HB2'.out.trans (hb3.mono HB2'.out.size));have HO3:=Aside0.mk (Kd.R_below HO2'.out hb3);clear hb3 HB2' HO2' HKS;obtain ⟨d2,hd2⟩ : ∃ d,l2.any (impl_changes.later y) = d:=⟨_,rfl⟩;rw [hd2] at HHIT ⊢;clear hd2;have hcases : (d1 = true ∨ d2 = true) ∨ (d1 = false ∧ d2 = false):=by cases d1 <;> cases d2 <;> simp
   rcases hcases with (h1 | h1) | ⟨h1,h2⟩
   ·subst h1;rw [Bool.true_or] at HHIT;have HT3:=Aside0.mk (show impl_changes.upto l0 (x.toNat + 1) = impl_changes.upto l0 x.toNat ++ [x] by rw [impl_changes.upto,HHIT.out];simp [Int.toNat_of_nonneg HX.out.1]);clear HHIT;go_wp2_with (first | ((with_reducible refine gate_builtin (b:=.append) (xs:=#[.tmp 30,.tmp 32]) rfl ?_);at_builtin;refine Kd.R_append (Kd.int .i64) (w0:=w) w.heap.size rfl (.tmp 30) (.tmp 32) 65 3 (.int .i64 0) 8 rfl Try.underlying65 info3 rfl (by decide) (by omega) u3 (impl_changes.upto l0 x.toNat) x [.int .i64 x] (fun _=>True) (fun _=>False) rfl (by first | (go_simp;done) | (go_simp;rfl)) ?aP (fun _ hk=>hk.elim) ?aF ?aO ?aB ?aS ?aL ?_;(case aP=>exact rfl);(case aF=>exact (fun _ _=>trivial));(case aO=>exact HO3.out);(case aB=>exact HB3.out);(case aS=>exact HB3.out.size);(case aL=>have:=HN.out;have:=HLT.out;have:=HL.out;omega);intro v1 w4 ho hb hg hat;have HO4:=Aside0.mk ho;have HB4:=Aside0.mk hb;clear ho hb hg hat))
    go_roundg (l0.length - (x.toNat + 1))
    case measure=>have:=HX.out;have:=HLT.out;omega
    case rel=>exact ⟨x + 1,by first | rfl | (rw [HW.out]) | (simp [HW.out]),⟨by have:=HX.out;have:=HLT.out;omega⟩,⟨by rw [show (x + 1).toNat = x.toNat + 1 by have:=HX.out;omega,HT3.out];exact HO4.out⟩,⟨HB4.out⟩⟩
   ·subst h1;rw [Bool.or_true] at HHIT;cases d1 with
    | true =>
     have HT3:=Aside0.mk (show impl_changes.upto l0 (x.toNat + 1) = impl_changes.upto l0 x.toNat ++ [x] by rw [impl_changes.upto,HHIT.out];simp [Int.toNat_of_nonneg HX.out.1]);clear HHIT;go_wp2_with (first | ((with_reducible refine gate_builtin (b:=.append) (xs:=#[.tmp 30,.tmp 32]) rfl ?_);at_builtin;refine Kd.R_append (Kd.int .i64) (w0:=w) w.heap.size rfl (.tmp 30) (.tmp 32) 65 3 (.int .i64 0) 8 rfl Try.underlying65 info3 rfl (by decide) (by omega) u3 (impl_changes.upto l0 x.toNat) x [.int .i64 x] (fun _=>True) (fun _=>False) rfl (by first | (go_simp;done) | (go_simp;rfl)) ?aP (fun _ hk=>hk.elim) ?aF ?aO ?aB ?aS ?aL ?_;(case aP=>exact rfl);(case aF=>exact (fun _ _=>trivial));(case aO=>exact HO3.out);(case aB=>exact HB3.out);(case aS=>exact HB3.out.size);(case aL=>have:=HN.out;have:=HLT.out;have:=HL.out;omega);intro v1 w4 ho hb hg hat;have HO4:=Aside0.mk ho;have HB4:=Aside0.mk hb;clear ho hb hg hat))
     go_roundg (l0.length - (x.toNat + 1))
     case measure=>have:=HX.out;have:=HLT.out;omega
     case rel=>exact ⟨x + 1,by first | rfl | (rw [HW.out]) | (simp [HW.out]),⟨by have:=HX.out;have:=HLT.out;omega⟩,⟨by rw [show (x + 1).toNat = x.toNat + 1 by have:=HX.out;omega,HT3.out];exact HO4.out⟩,⟨HB4.out⟩⟩
    | false =>
     have HT3:=Aside0.mk (show impl_changes.upto l0 (x.toNat + 1) = impl_changes.upto l0 x.toNat ++ [x] by rw [impl_changes.upto,HHIT.out];simp [Int.toNat_of_nonneg HX.out.1]);clear HHIT;go_wp2_with (first | ((with_reducible refine gate_builtin (b:=.append) (xs:=#[.tmp 30,.tmp 32]) rfl ?_);at_builtin;refine Kd.R_append (Kd.int .i64) (w0:=w) w.heap.size rfl (.tmp 30) (.tmp 32) 65 3 (.int .i64 0) 8 rfl Try.underlying65 info3 rfl (by decide) (by omega) u3 (impl_changes.upto l0 x.toNat) x [.int .i64 x] (fun _=>True) (fun _=>False) rfl (by first | (go_simp;done) | (go_simp;rfl)) ?aP (fun _ hk=>hk.elim) ?aF ?aO ?aB ?aS ?aL ?_;(case aP=>exact rfl);(case aF=>exact (fun _ _=>trivial));(case aO=>exact HO3.out);(case aB=>exact HB3.out);(case aS=>exact HB3.out.size);(case aL=>have:=HN.out;have:=HLT.out;have:=HL.out;omega);intro v1 w4 ho hb hg hat;have HO4:=Aside0.mk ho;have HB4:=Aside0.mk hb;clear ho hb hg hat))
     go_roundg (l0.length - (x.toNat + 1))
     case measure=>have:=HX.out;have:=HLT.out;omega
     case rel=>exact ⟨x + 1,by first | rfl | (rw [HW.out]) | (simp [HW.out]),⟨by have:=HX.out;have:=HLT.out;omega⟩,⟨by rw [show (x + 1).toNat = x.toNat + 1 by have:=HX.out;omega,HT3.out];exact HO4.out⟩,⟨HB4.out⟩⟩
   ·subst h1;subst h2;have HT3:=Aside0.mk (show impl_changes.upto l0 (x.toNat + 1) = impl_changes.upto l0 x.toNat by rw [impl_changes.upto,HHIT.out];simp);clear HHIT;go_wp2;go_roundg (l0.length - (x.toNat + 1))
    case measure=>have:=HX.out;have:=HLT.out;omega
    case rel=>exact ⟨x + 1,by first | rfl | (rw [HW.out]) | (simp [HW.out]),⟨by have:=HX.out;have:=HLT.out;omega⟩,⟨by rw [show (x + 1).toNat = x.toNat + 1 by have:=HX.out;omega,HT3.out];exact HO3.out⟩,⟨HB3.out⟩⟩
  ·have b1 : decide (x < (l0.length : Int)) = false:=decide_eq_false hlt;have e : x.toNat = l0.length:=by have:=HX.out;omega
   have h:=HO.out;rw [e] at h;have HO2:=Aside0.mk h;clear hlt e h HO;go_wp2;go_ret;exact ⟨_,rfl,HO2.out,HB.out⟩
/-! ### impl_freePlace: function 161 -/
def impl_freePlace.p (a1 b : Int) (x : S77) : Bool:=decide (x.f1 = a1 ∧ x.f2 = b)
def impl_freePlace.from (l0 : List S77) (a1 : Int) : Nat → Int
 | 0=>-1
 | d + 1=>if l0.any (impl_freePlace.p a1 (9 - (d : Int))) then impl_freePlace.from l0 a1 d else 9 - (d : Int)
def impl_freePlace.f (l0 : List S77) (a1 : Int) : Option (Int):=some (impl_freePlace.from l0 a1 10)
theorem impl_freePlace.test (a1 b : Int) (x : S77) : impl_Person_clashes.f x.f0 x.f1 x.f2 x.f3 a1 b = some (impl_freePlace.p a1 b x):=by
 unfold impl_Person_clashes.f impl_freePlace.p;by_cases h : x.f1 = a1
 ·rw [if_pos h];simp [h,Bool.beq_eq_decide_eq]
 ·rw [if_neg h];simp [h]
set_option maxHeartbeats 4000000 in
set_option maxRecDepth 100000 in
theorem impl_freePlace.pred (a1 b : Int) (B C : Nat) (w : World) (hB : B < w.heap.size) (hC : C < w.heap.size) (hb0 : w.cell? ⟨B,0,none⟩ = some (.int .i64 a1)) (hc0 : w.cell? ⟨C,0,none⟩ = some (.int .i64 b)) (W : World) (x : S77) (hb : Below w.heap.size w W) :
  Calls Try.prog 237 (#[.agg #[.string x.f0,.int .i64 x.f1,.int .i64 x.f2,.int .i64 x.f3]] ++ #[.pointer (some ⟨B,0,none⟩),.pointer (some ⟨C,0,none⟩)]) W fun e w' => e = .returned (.bool (impl_freePlace.p a1 b x)) ∧ Below w.heap.size w w' := by
 have hb1 : W.cell? ⟨B,0,none⟩ = some (.int .i64 a1):=(hb.cell (p:=⟨B,0,none⟩) hB).trans hb0;have hc1 : W.cell? ⟨C,0,none⟩ = some (.int .i64 b):=(hb.cell (p:=⟨C,0,none⟩) hC).trans hc0;have hBW : B < W.heap.size:=Nat.lt_of_lt_of_le hB hb.size;have hne : B ≠ W.heap.size:=by omega
 have hCW : C < W.heap.size:=Nat.lt_of_lt_of_le hC hb.size;have hne2 : C ≠ W.heap.size:=by omega
 have HT:=impl_freePlace.test a1 b x;have HB:=Aside0.mk hb;clear hb0 hc0 hb hB hC;generalize impl_freePlace.p a1 b x = q at HT ⊢;have HT' := Aside0.mk HT;clear HT;show Calls Try.prog 237 #[.agg #[.string x.f0,.int .i64 x.f1,.int .i64 x.f2,.int .i64 x.f3],.pointer (some ⟨B,0,none⟩),.pointer (some ⟨C,0,none⟩)] W _;go_enter Try.func237,Try.ntmps237
 go_wp2_with (go_at_call 167;refine (impl_Person_clashes.calls _ _ _ _ _ _ _ _ HT'.out).mono ?_;rintro e w' ⟨rfl,hb2⟩;have HB2:=Aside0.mk hb2;clear hb2)
 go_ret;exact ⟨rfl,(HB.out.alloc HB.out.size _).trans (HB2.out.mono (by simp;exact Nat.le_succ_of_le HB.out.size))⟩
set_option maxHeartbeats 4000000 in
set_option maxRecDepth 100000 in
theorem impl_freePlace.calls (A0 : Option Addr) (c0 : Nat) (l0 : List S77) (a1 : Int) (r : Int) (w : World) (hr0 : Kd.C k77 w A0 l0.length l0) (hc0 : l0.length ≤ c0) (h : impl_freePlace.f l0 a1 = some r) :
  Calls Try.prog 161 #[.slice A0 l0.length c0,.int .i64 a1] w fun e w' => e = .returned (.int .i64 r) ∧ Below w.heap.size w w' := by
 obtain rfl:=Option.some.inj h;clear h;have eg : ∀ args w,(callFunc 237 args).run Try.prog w = .ok (.enter 237 args) w:=goes_in Try.func237 (by kernel_rfl) rfl
 have HC:=Aside0.mk (fun (b : Int) (C : Nat) (W : World) (hb : Below w.heap.size w W) (h1 : w.heap.size < W.heap.size) (h2 : W.cell? ⟨w.heap.size,0,none⟩ = some (.int .i64 a1)) (h3 : C < W.heap.size) (h4 : W.cell? ⟨C,0,none⟩ = some (.int .i64 b))=>slices_ContainsFunc_Person.with (impl_freePlace.p a1 b) 237 #[.pointer (some ⟨w.heap.size,0,none⟩),.pointer (some ⟨C,0,none⟩)] eg A0 c0 l0 W (Kd.C_below hr0 hb)
  (fun W2 x hb2=>impl_freePlace.pred a1 b w.heap.size C W h1 h3 h2 h4 W2 x hb2))
 clear hr0 hc0 eg;go_enter Try.func161,Try.ntmps161
 go_wp2_with fail
 have HW:=Aside0.mk ((Below.refl _ w).alloc (Nat.le_refl _) (.cells #[.int .i64 a1] 3));have hcell : (w.alloc (.cells #[.int .i64 a1] 3)).cell? ⟨w.heap.size,0,none⟩ = some (.int .i64 a1):=by simp
 have hlt : w.heap.size < (w.alloc (.cells #[.int .i64 a1] 3)).heap.size:=by simp
 have HCE:=Aside0.mk hcell;have HLT:=Aside0.mk hlt;clear hcell hlt;generalize w.alloc (.cells #[.int .i64 a1] 3) = w1 at HW HCE HLT ⊢;go_loopg [6] 10 (fun gg s6 wr=>∃ j : Nat,s6 = .int .i64 (j : Int) ∧ Aside0 (j ≤ 10 ∧ 10 - j ≤ gg) ∧ Aside0 (impl_freePlace.from l0 a1 10 = impl_freePlace.from l0 a1 (10 - j)) ∧ Aside0 (Below w1.heap.size w1 wr))
 case atStart=>exact ⟨0,rfl,⟨by omega⟩,⟨rfl⟩,⟨Below.refl _ _⟩⟩
 case round =>
  obtain ⟨j,rfl,HJ,HF,HB⟩:=hrel;by_cases hj : j < 10
  ·have b1 : decide ((j : Int) < 10) = true:=decide_eq_true (by omega);have HJ2:=Aside0.mk hj;have e9 : 10 - j = (9 - j) + 1:=by omega
   have HF2:=Aside0.mk (HF.out.trans (congrArg (impl_freePlace.from l0 a1) e9));have e10 : (9 : Int) - ((9 - j : Nat) : Int) = (j : Int):=by omega
   clear hj e9;go_wp2_with fail
   have hb1:=HB.out.alloc HB.out.size (.cells #[.int .i64 (j : Int)] 3);have hsz:=HB.out.size;have hlt:=HLT.out;refine (HC.out (j : Int) wr.heap.size (wr.alloc (.cells #[.int .i64 (j : Int)] 3)) (HW.out.trans (hb1.mono (Nat.le_of_lt hlt))) (by simp;omega) ((hb1.cell (p:=⟨w.heap.size,0,none⟩) hlt).trans HCE.out) (by simp) (by simp)).mono ?_;rintro e w2 ⟨rfl,hb2⟩;have HB2:=Aside0.mk (hb1.trans (hb2.mono (by simp;omega)));have HC5:=Aside0.mk ((hb2.cell (p:=⟨wr.heap.size,0,none⟩) (by simp)).trans (show (wr.alloc (.cells #[.int .i64 (j : Int)] 3)).cell? ⟨wr.heap.size,0,none⟩ = some (.int .i64 (j : Int)) by simp));clear hb1 hb2 hsz hlt;cases hq : l0.any (impl_freePlace.p a1 (j : Int)) with
   | true =>
    have HF3:=Aside0.mk (HF2.out.trans (show impl_freePlace.from l0 a1 (9 - j + 1) = impl_freePlace.from l0 a1 (9 - j) by rw [impl_freePlace.from,e10,hq];rfl));clear hq e10 HF HF2;go_wp2;go_roundg (10 - (j + 1))
    case measure=>have:=HJ.out;have:=HJ2.out;omega
    case rel=>exact ⟨j + 1,by have:=HJ2.out;rw [show wrap64 ((j : Int) + 1) = ((j + 1 : Nat) : Int) by unfold wrap64;omega],⟨by have:=HJ2.out;omega⟩,⟨by rw [HF3.out,show 9 - j = 10 - (j + 1) by omega]⟩,⟨HB2.out⟩⟩
   | false =>
    have HF3:=Aside0.mk (HF2.out.trans (show impl_freePlace.from l0 a1 (9 - j + 1) = (j : Int) by rw [impl_freePlace.from,e10,hq];rfl));clear hq e10 HF HF2;have hc5:=HC5.out;go_wp2;go_ret;exact ⟨by rw [HF3.out];rfl,HW.out.trans (HB2.out.mono (Nat.le_of_lt HLT.out))⟩
  ·have b1 : decide ((j : Int) < 10) = false:=decide_eq_false (by omega);have HF3:=Aside0.mk (HF.out.trans (congrArg (impl_freePlace.from l0 a1) (show 10 - j = 0 by omega)));clear hj;go_wp2;go_ret;exact ⟨by rw [HF3.out];rfl,HW.out.trans (HB.out.mono (Nat.le_of_lt HLT.out))⟩
end Go.Proofs.Ytgapcmmhbegdeaa.G
