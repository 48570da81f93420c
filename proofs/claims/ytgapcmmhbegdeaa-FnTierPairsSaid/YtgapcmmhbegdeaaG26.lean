-- Written by this session's own program over the kit's print (wip/tools/myprint.py); Lean checks it.
import Derived.Test.YtgapcmmhbegdeaaMBase
import Derived.Test.YtgapcmmhbegdeaaG0
import Derived.Test.YtgapcmmhbegdeaaG8
import Derived.Test.YtgapcmmhbegdeaaG25
import Derived.Test.YtgapcmmhbegdeaaG43
namespace Go.Proofs.Ytgapcmmhbegdeaa.G
open Go.RowKit Go.Proofs.YtgapcmmhbegdeaaW.PrintWords Go.Proofs.YtgapcmmhbegdeaaW.PrintLast Go.Proofs.YtgapcmmhbegdeaaW.PrintMore
attribute [local go_sem] max2_int min2_int max_two min_two max_three min_three max_four min_four str_geq str_gtr str_leq   -- for this text's walks alone
set_option linter.unusedVariables false
set_option linter.unusedSimpArgs false
attribute [local go_sem high] eqA58
/-! ### yAx: function 97 -/
def yAx.l0 : Nat → List (List Int) → List (List Int) → Int → Int → Option (Bool)
 | 0,_,_,_,_=>none
 | k + 1,x0,x1,x12,x13=>if x13 < x12 then (if 0 ≤ x13 then (if x13 < (x0.length : Int) then (if x13 < (x1.length : Int) then ((yA3.f k (rd_L15 x0 x13) (rd_L15 x1 x13)).bind fun t103=>(if t103 = true then (yAx.l0 k x0 x1 x12 (wrap64 (x13 + 1))) else (some false))) else (none)) else (none)) else (none)) else (some true)
def yAx.f (k : Nat) (l0 : List (List Int)) (l1 : List (List Int)) : Option (Bool):=if (l0.length : Int) = (l1.length : Int) then (yAx.l0 k l0 l1 (l0.length : Int) 0) else (some false)
set_option maxHeartbeats 8000000 in
set_option maxRecDepth 100000 in
theorem yAx.calls (k : Nat) (A0 : Option Addr) (c0 : Nat) (l0 : List (List Int)) (A1 : Option Addr) (c1 : Nat) (l1 : List (List Int)) (r : Bool) (w : World) (hr0 : Kd.C (Kd.slice 3 (Kd.int .i64)) w A0 l0.length l0) (hc0 : l0.length ≤ c0) (hr1 : Kd.C (Kd.slice 3 (Kd.int .i64)) w A1 l1.length l1) (hc1 : l1.length ≤ c1) (h : yAx.f k l0 l1 = some r) :
  Calls Try.prog 97 #[.slice A0 l0.length c0,.slice A1 l1.length c1] w fun e w' => e = .returned (.bool r) ∧ Drawn0 w w' := by
 have HR0:=Aside0.mk hr0;have HC0:=Aside0.mk hc0;clear hr0 hc0;have HR1:=Aside0.mk hr1;have HC1:=Aside0.mk hc1;clear hr1 hc1;have H : (if (l0.length : Int) = (l1.length : Int) then (yAx.l0 k l0 l1 (l0.length : Int) 0) else (some false)) = some r:=h;clear h;by_cases c3 : (l0.length : Int) = (l1.length : Int)
 ·rw [if_pos c3] at H;have c3b0 : ((l0.length : Int) == (l1.length : Int)) = true:=beq_iff_eq.mpr c3;have c3b1 : ((l0.length : Int) != (l1.length : Int)) = false:=bne_eq_false_iff_eq.mpr c3;have c3b2 : (l0.length == l1.length) = true:=by first | simpa using c3 | (simp at c3 ⊢;omega)
  clear c3;have H' := Aside0.mk H;clear H;go_enter Try.func97,Try.ntmps97
  go_wp2;repeat (go_quiet (fail);try go_wp2)
  go_loopg [13] k (fun kq v13 w' => ∃ (x13_1 : Int),v13 = .int .i64 x13_1 ∧ Aside0 (yAx.l0 kq l0 l1 (l0.length : Int) x13_1 = some r) ∧ Aside0 (kq ≤ k) ∧ Drawn0 w w')
  case atStart=>exact ⟨(0),(q1_),H', ⟨Nat.le_refl _⟩,q3_⟩
  case round =>
   clear H';try clear c1
   try clear c3
   try clear c3b0
   try clear c3b1
   try clear c3b2
   obtain ⟨x13_1,rfl,HA,HK1,⟨m1,rfl⟩⟩:=hrel;cases gk with
   | zero=>exact absurd HA.out (by simp [yAx.l0])
   | succ k1 =>
    have H:=HA.out;clear HA;simp only [yAx.l0] at H;by_cases c4 : x13_1 < (l0.length : Int)
    ·rw [if_pos c4] at H;have c4b0:=decide_eq_true c4;clear c4;by_cases c5 : 0 ≤ x13_1
     ·rw [if_pos c5] at H;have c5b0:=decide_eq_true c5;clear c5;by_cases c6 : x13_1 < (l0.length : Int)
      ·rw [if_pos c6] at H;have c6b0:=decide_eq_true c6;clear c6;by_cases c7 : x13_1 < (l1.length : Int)
       ·rw [if_pos c7] at H;have c7b0:=decide_eq_true c7;clear c7;replace H:=Option.bind_eq_some_iff.mp H;obtain ⟨t103,A80,H⟩:=H;(try dsimp only at H);have A8:=Aside0.mk A80;clear A80;by_cases c9 : t103 = true
        ·subst c9;rw [if_pos rfl] at H;have H' := Aside0.mk H;clear H;have p101 : 0 ≤ (x13_1 : Int):=of_decide_eq_true (q2_);have q101 : x13_1 < (l0.length : Int):=of_decide_eq_true (q2_);obtain ⟨ad101,A101_0,c101_0,e101,hx101_0,hl101_0,hi101_0⟩:=at_L15 HR0.out x13_1 p101 q101;cases e101;have HR101_0:=Aside0.mk hi101_0;have HC101_0:=Aside0.mk hl101_0;clear hi101_0 hl101_0;replace p101:=eq_true p101;replace q101:=eq_true q101;have p102 : 0 ≤ (x13_1 : Int):=of_decide_eq_true (q2_);have q102 : x13_1 < (l1.length : Int):=of_decide_eq_true (q2_);obtain ⟨ad102,A102_0,c102_0,e102,hx102_0,hl102_0,hi102_0⟩:=at_L15 HR1.out x13_1 p102 q102;cases e102;have HR102_0:=Aside0.mk hi102_0;have HC102_0:=Aside0.mk hl102_0;clear hi102_0 hl102_0;replace p102:=eq_true p102;replace q102:=eq_true q102;iterate 3 (go_wp2_with (first | (go_at_call 196;(with_reducible refine (yA3.calls k1 _ _ (rd_L15 l0 x13_1) _ _ (rd_L15 l1 x13_1) true _ ?side1 ?side2 ?side3 ?side4 A8.out).mono ?_);(case side1=>exact cX_ HR101_0.out);(case side2=>exact HC101_0.out);(case side3=>exact cX_ HR102_0.out);(case side4=>exact HC102_0.out);rintro e w' ⟨rfl,⟨nd,rfl⟩⟩;(try first | exact ⟨rfl,_,World.drewN_drewN _ _ _⟩ | exact ⟨rfl,_,Eq.trans (World.drewN_drewN _ _ _) (congrArg (World.drewN _) (Nat.add_assoc _ _ _))⟩)));try go_quiet (first | (go_at_call 196;(with_reducible refine (yA3.calls k1 _ _ (rd_L15 l0 x13_1) _ _ (rd_L15 l1 x13_1) true _ ?side1 ?side2 ?side3 ?side4 A8.out).mono ?_);(case side1=>exact cX_ HR101_0.out);(case side2=>exact HC101_0.out);(case side3=>exact cX_ HR102_0.out);(case side4=>exact HC102_0.out);rintro e w' ⟨rfl,⟨nd,rfl⟩⟩;(try first | exact ⟨rfl,_,World.drewN_drewN _ _ _⟩ | exact ⟨rfl,_,Eq.trans (World.drewN_drewN _ _ _) (congrArg (World.drewN _) (Nat.add_assoc _ _ _))⟩))))
         go_roundg k1
         case measure=>have:=HK1.out;omega
         case rel=>exact ⟨(wrap64 (x13_1 + 1)),(q1_),H', ⟨by have:=HK1.out;omega⟩,q3_⟩
        ·replace c9:=Bool.eq_false_iff.mpr c9;subst c9;rw [if_neg (show ¬ (false = true) by decide)] at H;obtain rfl:=Option.some.inj H;have p101 : 0 ≤ (x13_1 : Int):=of_decide_eq_true (q2_);have q101 : x13_1 < (l0.length : Int):=of_decide_eq_true (q2_);obtain ⟨ad101,A101_0,c101_0,e101,hx101_0,hl101_0,hi101_0⟩:=at_L15 HR0.out x13_1 p101 q101;cases e101;have HR101_0:=Aside0.mk hi101_0;have HC101_0:=Aside0.mk hl101_0;clear hi101_0 hl101_0;replace p101:=eq_true p101;replace q101:=eq_true q101;have p102 : 0 ≤ (x13_1 : Int):=of_decide_eq_true (q2_);have q102 : x13_1 < (l1.length : Int):=of_decide_eq_true (q2_);obtain ⟨ad102,A102_0,c102_0,e102,hx102_0,hl102_0,hi102_0⟩:=at_L15 HR1.out x13_1 p102 q102;cases e102;have HR102_0:=Aside0.mk hi102_0;have HC102_0:=Aside0.mk hl102_0;clear hi102_0 hl102_0;replace p102:=eq_true p102;replace q102:=eq_true q102;iterate 3 (go_wp2_with (first | (go_at_call 196;(with_reducible refine (yA3.calls k1 _ _ (rd_L15 l0 x13_1) _ _ (rd_L15 l1 x13_1) false _ ?side1 ?side2 ?side3 ?side4 A8.out).mono ?_);(case side1=>exact cX_ HR101_0.out);(case side2=>exact HC101_0.out);(case side3=>exact cX_ HR102_0.out);(case side4=>exact HC102_0.out);rintro e w' ⟨rfl,⟨nd,rfl⟩⟩;(try first | exact ⟨rfl,_,World.drewN_drewN _ _ _⟩ | exact ⟨rfl,_,Eq.trans (World.drewN_drewN _ _ _) (congrArg (World.drewN _) (Nat.add_assoc _ _ _))⟩)));try go_quiet (first | (go_at_call 196;(with_reducible refine (yA3.calls k1 _ _ (rd_L15 l0 x13_1) _ _ (rd_L15 l1 x13_1) false _ ?side1 ?side2 ?side3 ?side4 A8.out).mono ?_);(case side1=>exact cX_ HR101_0.out);(case side2=>exact HC101_0.out);(case side3=>exact cX_ HR102_0.out);(case side4=>exact HC102_0.out);rintro e w' ⟨rfl,⟨nd,rfl⟩⟩;(try first | exact ⟨rfl,_,World.drewN_drewN _ _ _⟩ | exact ⟨rfl,_,Eq.trans (World.drewN_drewN _ _ _) (congrArg (World.drewN _) (Nat.add_assoc _ _ _))⟩))))
         go_ret;exact ⟨q1_,q3_⟩
       ·rw [if_neg c7] at H;exact absurd H (by simp)
      ·rw [if_neg c6] at H;exact absurd H (by simp)
     ·rw [if_neg c5] at H;exact absurd H (by simp)
    ·rw [if_neg c4] at H;have c4b0:=decide_eq_false c4;clear c4;obtain rfl:=Option.some.inj H;go_wp2;repeat (go_quiet (fail);try go_wp2)
     go_ret;exact ⟨q1_,q3_⟩
 ·rw [if_neg c3] at H;have c3b0 : ((l0.length : Int) == (l1.length : Int)) = false:=beq_eq_false_iff_ne.mpr c3;have c3b1 : ((l0.length : Int) != (l1.length : Int)) = true:=bne_iff_ne.mpr c3;have c3b2 : (l0.length == l1.length) = false:=by first | simpa using c3 | (simp at c3 ⊢;omega)
  obtain rfl:=Option.some.inj H;go_enter Try.func97,Try.ntmps97
  go_wp2;repeat (go_quiet (fail);try go_wp2)
  go_ret;exact ⟨q1_,q3_⟩
/-! ### yAk: function 145 -/
def yAk.f (l0 : List S58) : Option (List S58):=if l0.length * 32 ≤ 140737488355328 then some l0 else none
set_option maxHeartbeats 4000000 in
set_option maxRecDepth 100000 in
theorem yAk.calls (A0 : Option Addr) (c0 : Nat) (l0 : List S58) (r : List S58) (w : World) (hr0 : Kd.C k58 w A0 l0.length l0) (hc0 : l0.length ≤ c0) (h : yAk.f l0 = some r) :
  Calls Try.prog 145 #[.slice A0 l0.length c0] w fun e w' => ∃ v0_ : Value,e = .returned (v0_) ∧ Kd.R k58 58 w' w.heap.size (fun _=>True) v0_ r ∧ Below w.heap.size w w' := by
 by_cases hb : l0.length * 32 ≤ 140737488355328
 case neg=>simp [yAk.f,hb] at h
 rw [yAk.f,if_pos hb] at h;obtain rfl:=Option.some.inj h;clear h;have HL:=Aside0.mk hb;have HR:=Aside0.mk hr0;clear hb hr0;cases A0 with
 | none =>
  have e : l0 = []:=by
   rcases Nat.eq_zero_or_pos l0.length with h | h
   ·exact List.eq_nil_of_length_eq_zero h
   ·obtain ⟨ad,he,_⟩:=HR.out.2.2 h;cases he
  subst e;clear HL HR hc0;have hz:=MOwn.eql_nil (P:=Try.prog) 30 58 none 0 c0 Try.underlying30;go_enter Try.func145,Try.ntmps145
  go_wp2;go_ret;exact ⟨_,rfl,Kd.R_nil _ _ _ _ _,Below.refl _ _⟩
 | some ad =>
  clear hc0;have hz:=MOwn.eql_nil (P:=Try.prog) 30 58 (some ad) l0.length c0 Try.underlying30;go_enter Try.func145,Try.ntmps145
  go_wp2_with (first | ((with_reducible refine gate_dst (N:=5) rfl ?_);refine Kd.R_lit k58 _ 58 ?hg (N:=5) ?hd (xs:=([] : List S58)) (inner:=[]) (ok:=fun _=>True) (okp:=fun _=>False) ?hr ?hp (fun _ hk=>hk.elim) trivial (Below.refl _ _) (Nat.le_refl _) (by simp) ?_;(case hd=>rfl);(case hg=>rfl);(case hr=>first | (go_simp;done) | (go_simp;rfl));(case hp=>exact Reps.none _ _);intro v1 w1 ho1 hb1 _ _;have HO1:=Aside0.mk ho1;have HB1:=Aside0.mk hb1;clear ho1 hb1) | ((with_reducible refine gate_builtin (b:=.append) (xs:=#[.tmp 5,.tmp 6]) rfl ?_);at_builtin;refine Kd.R_append_rows k58 (w0:=w) w.heap.size rfl (.tmp 5) (.tmp 6) 30 58 (.agg #[(.int .i64 0),(.int .i64 0),(.string ⟨#[]⟩)]) 32 rfl Try.underlying30 info58 rfl (by decide) (by omega) v1 ([] : List S58) l0 (some ad) l0.length c0 (fun _=>True) (fun _=>False) rfl (by first | (go_simp;done) | (go_simp;rfl)) ?aO ?aR (fun _ _ h=>h) (fun _ h=>h.elim) ?aF ?aB ?aS ?aL ?_;(case aO=>exact HO1.out);(case aR=>exact Kd.C_below HR.out HB1.out);(case aF=>exact (fun _ _=>trivial));(case aB=>exact HB1.out);(case aS=>exact HB1.out.size);(case aL=>have:=HL.out;simpa using this);intro v2 w2 ho2 hb2 _ _;have HO2:=Aside0.mk ho2;have HB2:=Aside0.mk hb2;clear ho2 hb2))
  go_ret;exact ⟨_,rfl,by simpa using HO2.out,HB2.out⟩
/-! ### yAG: function 197 -/
def yAG.zc (m : Nat) : List Value:=(Builtin.zeroCells #[.int .i64 0,.int .i64 0,.string ⟨#[]⟩] m).toList
theorem yAG.zc_succ (m : Nat) : yAG.zc (m + 1) = .int .i64 0 :: .int .i64 0 :: .string ⟨#[]⟩ :: yAG.zc m:=by
 unfold yAG.zc Builtin.zeroCells;have e : (m + 1) * 3 = 3 + m * 3:=by omega
 show ((Array.range ((m + 1) * 3)).map _).toList = _;rw [e];simp [List.range_add,List.map_map];have h : ∀ x,(3 + x) % 3 = x % 3:=fun x=>by omega
 simp only [Function.comp_def,h];rfl
theorem yAG.zc_length : ∀ m,(yAG.zc m).length = m * 3
 | 0=>by simp [yAG.zc,Builtin.zeroCells]
 | m + 1=>by rw [yAG.zc_succ];simp [yAG.zc_length m];omega
theorem yAG.zc_one : ∀ m,∀ v ∈ yAG.zc m,v.oneCell' = true
 | 0=>by intro v hv;simp [yAG.zc,Builtin.zeroCells] at hv
 | m + 1=>by
  intro v hv;rw [yAG.zc_succ] at hv;simp only [List.mem_cons] at hv
  rcases hv with rfl | rfl | rfl | hv
  ·rfl
  ·rfl
  ·rfl
  ·exact yAG.zc_one m v hv
theorem yAG.clr {base g n cap : Nat} {ok : Nat → Prop} : ∀ (m i : Nat) (xs : List S58) (W : World),i + m = n → Kd.R k58 58 W base ok (.slice (some ⟨g,0,none⟩) n cap) xs → ∃ ys : List S58,ys.length = n ∧ ys.take i = xs.take i ∧ Kd.R k58 58 (W.setCells g (i * 3) (yAG.zc m)) base ok (.slice (some ⟨g,0,none⟩) n cap) ys
 | 0,i,xs,W,_,h=>⟨xs,(Kd.R_reads' h).1.symm,rfl,by simpa [yAG.zc,Builtin.zeroCells,World.setCells] using h⟩
 | m + 1,i,xs,W,hi,h=>by
  have h0 : (0 : Int) ≤ (i : Int):=by omega
  have h1 : (i : Int) < (n : Int):=by omega
  obtain ⟨ce,hcl,hM,hcc,_⟩:=Kd.R_elem h z58 (i : Int) h0 h1;have z:=(Kd.R_seg h (i : Int) h0 h1 (seg:=[.int .i64 0,.int .i64 0,.string ⟨#[]⟩]) (j:=0) hcl hcc (show 0 + 3 ≤ 3 by decide) (x' := z58) (okp:=fun k=>ok k ∧ k ≠ g) (by rw [List.take_zero,List.drop_eq_nil_of_le (by rw [hcl];exact Nat.le_refl 3)];exact k58_mkM _ _ _ z58) (fun _ hk=>hk)).1;obtain ⟨ys,h2,h3,h4⟩:=yAG.clr m (i + 1) _ _ (by omega) z;refine ⟨ys,h2,?_,?_⟩
  ·have h5:=congrArg (List.take i) h3;rw [List.take_take,List.take_take,Nat.min_eq_left (by omega),List.take_set_of_le (by simp)] at h5;exact h5
  ·rw [yAG.zc_succ];have e : (i + 1) * 3 = i * 3 + 1 + 1 + 1:=by omega
   rw [e] at h4;exact h4
theorem yAG.clear {base g n cap : Nat} {ok : Nat → Prop} {xs : List S58} {W : World} (h : Kd.R k58 58 W base ok (.slice (some ⟨g,0,none⟩) n cap) xs) (m i c : Nat) (hi : i + m = n) (hm : 0 < m) (ty : TypeId) :
  (Builtin.clear_ #[30] ty #[.slice (some ⟨g,i * 3,none⟩) m c]).run Try.prog W = .ok (.tuple #[]) (W.setCells g (i * 3) (yAG.zc m)):=by
 have hcell : ∀ q,q < (yAG.zc m).length → (W.cell? ⟨g,i * 3 + 0 + q,none⟩).isSome = true ∧ W.frozen? ⟨g,i * 3 + 0 + q,none⟩ = false:=by
  intro q hq;rw [yAG.zc_length] at hq;obtain ⟨ce,hcl,_,hcc,hfr⟩:=Kd.R_elem h z58 ((i + q / 3 : Nat) : Int) (by omega) (by omega);have e : (((i + q / 3 : Nat) : Int)).toNat * 3 + q % 3 = i * 3 + 0 + q:=by rw [Int.toNat_natCast];omega
  have h1:=hfr (q % 3);have hlt : q % 3 < ce.length:=by rw [hcl];exact Nat.mod_lt _ (by decide)
  have h2:=hcc (q % 3) _ (List.getElem?_eq_getElem hlt);rw [show (k58).sz = 3 from rfl,e] at h1 h2;exact ⟨by rw [h2];rfl,h1⟩
 have hst:=run_storeCells_cells (P:=Try.prog) g (i * 3) (yAG.zc m) 0 W (fun j hj=>(hcell j hj).1) (fun j hj=>(hcell j hj).2) (yAG.zc_one m);rw [Nat.add_zero] at hst;obtain ⟨m,rfl⟩ : ∃ k,m = k + 1:=⟨m - 1,by omega⟩
 have hz : (zeroValue 58).run Try.prog W = .ok (.agg #[.int .i64 0,.int .i64 0,.string ⟨#[]⟩]) W:=by
  obtain ⟨i0,hi0,hz0,_,_⟩:=info_parts info58;simp [zeroValue,typeInfo,hi0,hz0,Result.andThen]
 have hst2 : (storeCells ⟨g,i * 3,none⟩ (Builtin.zeroCells (Value.agg #[.int .i64 0,.int .i64 0,.string ⟨#[]⟩]).cells (m + 1)).toList 0).run Try.prog W = .ok () (W.setCells g (i * 3) (yAG.zc (m + 1))):=hst;simp [Builtin.clear_,run_underlying Try.underlying30,hz,hst2,Result.andThen]
theorem yAG.filter_none (p : S58 → Bool) (l : List S58) (h : ∀ x,x ∈ l → p x = false) : l.filter (fun x=>!p x) = l:=by
 rw [List.filter_eq_self];intro x hx;rw [h x hx];rfl
theorem yAG.take_set_next {α : Type} {l : List α} {n : Nat} {y : α} (h : n < l.length) : (l.set n y).take (n + 1) = l.take n ++ [y]:=by
 rw [List.take_succ_eq_append_getElem (by rw [List.length_set];exact h),List.take_set_of_le (Nat.le_refl _)];simp
theorem yAG.bel {w1 : World} {g : Nat} (hg : w1.heap.size ≤ g) : ∀ (vs : List Value) (o : Nat) (w : World),Below w1.heap.size w1 w → Below w1.heap.size w1 (w.setCells g o vs)
 | [],_,_,h=>h
 | _ :: r,o,_,h=>yAG.bel hg r (o + 1) _ (below_set h hg)
theorem yAG.take_next {α : Type} {l : List α} {n : Nat} {y : α} (h : l.drop n = y :: l.drop (n + 1)) : l.take (n + 1) = l.take n ++ [y]:=by
 have hn : n < l.length:=by
  rcases Nat.lt_or_ge n l.length with h1 | h1
  ·exact h1
  ·rw [List.drop_eq_nil_of_le h1] at h;exact absurd h (by simp)
 rw [List.take_succ_eq_append_getElem hn];rw [List.drop_eq_getElem_cons hn] at h;rw [(List.cons.inj h).1]
set_option maxHeartbeats 4000000 in
set_option maxRecDepth 100000 in
theorem yAG.with (p : S58 → Bool) (g : Nat) (lb : Array Value) (eg : ∀ args w,(callFunc g args).run Try.prog w = .ok (.enter g args) w) (A0 : Option Addr) (c0 : Nat) (l0 : List S58) (w0 w : World) (hB : Below w0.heap.size w0 w) (hr0 : Kd.R k58 58 w w0.heap.size (fun _=>True) (.slice A0 l0.length c0) l0)
  (hp : ∀ (W : World) (x : S58),Below w0.heap.size w0 W → Calls Try.prog g (#[.agg #[.int .i64 x.f0,.int .i64 x.f1,.string x.f2]] ++ lb) W fun e w' => e = .returned (.bool (p x)) ∧ Below W.heap.size W w') :
  Calls Try.prog 197 #[.slice A0 l0.length c0,.func (.func g) #[] lb] w fun e w' => ∃ v,e = .returned v ∧ Kd.R k58 58 w' w0.heap.size (fun _=>True) v (l0.filter (fun x=>!p x)) ∧ Below w0.heap.size w0 w' := by
 have HI:=Aside0.mk (yBL.with p g lb eg A0 c0 l0 w (Kd.R_reads' hr0).2.2 (fun W x hb=>(hp W x (hB.trans (hb.mono hB.size))).mono (fun e w' h=>⟨h.1,hb.trans (h.2.mono hb.size)⟩)));have HR:=Aside0.mk hr0;have HP:=Aside0.mk hp;have HB:=Aside0.mk hB;have HL:=Aside0.mk (Kd.R_reads' hr0).2.2.2.1;have HCC:=Aside0.mk (Kd.R_reads' hr0).2.1;obtain ⟨i0,hi0,_,hsz0,_⟩:=info_parts info58;have HI0:=Aside0.mk hi0;have HSZ0:=Aside0.mk hsz0;clear hr0 hp hB hi0 hsz0;go_enter Try.func197,Try.ntmps197
 go_wp2_with fail
 refine HI.out.mono ?_;clear HI;rintro e wa ⟨rfl,hb⟩;have HRA:=Aside0.mk (Kd.R_below HR.out hb);have HBA:=Aside0.mk (HB.out.trans (hb.mono HB.out.size));clear hb HR HB;cases hf : l0.findIdx? p with
 | none =>
  have hall : ∀ x,x ∈ l0 → p x = false:=by simpa using List.findIdx?_eq_none_iff.1 hf
  have hq : idxOf p l0 = -1:=by unfold idxOf;rw [hf]
  rw [hq];have HF:=Aside0.mk (yAG.filter_none p l0 hall);clear hf hq hall;go_wp2;go_ret;exact ⟨_,rfl,by (with_reducible repeat (first | apply Kd.R_drewN | apply Kd.R_drew));rw [HF.out];exact HRA.out,by repeat (first | (with_reducible first | exact HBA.out | apply pw_below_drewN | apply below_drew1) | exact HBA.out)⟩
 | some m =>
  have hq : idxOf p l0 = (m : Int):=by unfold idxOf;rw [hf]
  rw [hq];obtain ⟨hm,hpm,hbm⟩:=List.findIdx?_eq_some_iff_getElem.1 hf;clear hf hq;have hw0 : wrap64 ((m : Int) + 1) = (m : Int) + 1:=by have:=HL.out;unfold wrap64;omega
  have HW0:=Aside0.mk hw0;have b0 : ((m : Int) == -1) = false:=by simp
  have HM:=Aside0.mk hm
  have HST:=Aside0.mk (show l0.take m = (l0.take (m + 1)).filter (fun x=>!p x) by
   rw [List.take_succ_eq_append_getElem hm,List.filter_append,yAG.filter_none p (l0.take m) (fun x hx=>by
    obtain ⟨j,hj,rfl⟩:=List.mem_iff_getElem.1 hx;rw [List.length_take] at hj;rw [List.getElem_take]
    simpa using hbm j (by omega))]
   simp [hpm])
  clear hm hpm hbm hw0;obtain ⟨gb,capb,he,hgb,_,_,_⟩:=Kd.R_form HRA.out (by have:=HM.out;omega);obtain ⟨rfl,-,-⟩:=Value.slice.inj he;have HGB:=Aside0.mk hgb;clear he hgb;go_wp2;go_loopg [5,6] l0.length (fun gg s5 s6 wr=>∃ (i j : Int) (cur : List S58),s5 = .int .i64 i ∧ s6 = .int .i64 j ∧ Aside0 (0 ≤ i ∧ i < j ∧ j ≤ (l0.length : Int) ∧ (l0.length : Int) - j ≤ (gg : Int)) ∧ Aside0 (cur.length = l0.length ∧ cur.take i.toNat = (l0.take j.toNat).filter (fun x=>!p x) ∧ cur.drop j.toNat = l0.drop j.toNat) ∧ Aside0 (Kd.R k58 58 wr w0.heap.size (fun _=>True) (.slice (some ⟨gb,0,none⟩) l0.length c0) cur) ∧ Aside0 (Below w0.heap.size w0 wr))
  case atStart=>exact ⟨m,m + 1,l0,rfl,by first | rfl | (rw [HW0.out]) | (simp [HW0.out]),⟨by have:=HM.out;omega⟩,⟨rfl,by rw [Int.toNat_natCast,show ((m : Int) + 1).toNat = m + 1 by omega];exact HST.out,rfl⟩,⟨by (with_reducible repeat (first | apply Kd.R_drewN | apply Kd.R_drew));exact HRA.out⟩,⟨by repeat (first | (with_reducible first | exact HBA.out | apply pw_below_drewN | apply below_drew1) | exact HBA.out)⟩⟩
  case round =>
   clear HRA HBA;obtain ⟨i,j,cur,rfl,rfl,HX,HC,HO,HB⟩:=hrel;by_cases hlt : j < (l0.length : Int)
   ·have p1 : 0 ≤ j:=by have:=HX.out;omega
    have q1:=hlt;have hw : wrap64 (j + 1) = j + 1:=by have:=HL.out;unfold wrap64;omega
    have hwi : wrap64 (i + 1) = i + 1:=by have:=HL.out;have:=HX.out;unfold wrap64;omega
    have HWJ:=Aside0.mk hw;have HWI:=Aside0.mk hwi;have HLT:=Aside0.mk hlt;obtain ⟨y,hdr⟩ : ∃ y,l0.drop j.toNat = y :: l0.drop (j.toNat + 1):=⟨_,List.drop_eq_getElem_cons (show j.toNat < l0.length by omega)⟩
    have hgy : cur.getD j.toNat z58 = y:=by
     have h1:=HC.out.2.2;rw [hdr] at h1;have h2:=congrArg (fun l=>l.getD 0 z58) h1
     simpa [List.getD_eq_getElem?_getD,List.getElem?_drop] using h2
    have HDR:=Aside0.mk hdr;obtain ⟨ce,hcl,hM,hcc,_⟩:=Kd.R_elem HO.out z58 j p1 q1;rw [hgy] at hM;obtain rfl:=k58_openM hM;have hy0 : wr.cell? ⟨gb,j.toNat * 3,none⟩ = some (.int .i64 y.f0):=hcc 0 _ rfl;have hy1 : wr.cell? ⟨gb,j.toNat * 3 + 1,none⟩ = some (.int .i64 y.f1):=hcc 1 _ rfl;have hy2 : wr.cell? ⟨gb,j.toNat * 3 + 2,none⟩ = some (.string y.f2):=hcc 2 _ rfl;have HGY:=Aside0.mk hgy;have b1 : decide (j < (l0.length : Int)) = true:=decide_eq_true hlt;clear hcl hM hcc hlt hdr hgy hw hwi;replace p1:=eq_true p1;replace q1:=eq_true q1;go_wp2_with fail
    refine MOwn.named ?_;intro wa hWa;have HB1:=Aside0.mk (show Below w0.heap.size w0 wa by subst hWa;exact HB.out.alloc HB.out.size _);have HO1:=Aside0.mk (show Kd.R k58 58 wa w0.heap.size (fun _=>True) (.slice (some ⟨gb,0,none⟩) l0.length c0) cur by subst hWa;exact Kd.R_alloc HO.out _);have hv0 : wa.cell? ⟨wr.heap.size,0,none⟩ = some (.int .i64 y.f0):=by subst hWa;simp
    have hv1 : wa.cell? ⟨wr.heap.size,1,none⟩ = some (.int .i64 y.f1):=by subst hWa;simp
    have hv2 : wa.cell? ⟨wr.heap.size,2,none⟩ = some (.string y.f2):=by subst hWa;simp
    have hsz : wr.heap.size < wa.heap.size:=by subst hWa;simp
    have hgv : gb ≠ wr.heap.size:=by
     obtain ⟨_,_,he,_,h3,_⟩:=Kd.R_form HO.out (by have:=HC.out.1;have:=HLT.out;have:=HX.out;omega);injection he with h4 _ _
     injection h4 with h4
     injection h4 with h4 _ _
     omega
    obtain ⟨vb,hvb⟩ : ∃ z,wr.heap.size = z:=⟨_,rfl⟩;rw [hvb] at hv0 hv1 hv2 hsz hgv ⊢;clear hWa hy0 hy1 hy2 hvb HB HO;refine (HP.out wa y HB1.out).mono ?_;rintro e wb ⟨rfl,hb⟩;have HB:=Aside0.mk (HB1.out.trans (hb.mono HB1.out.size));have HO:=Aside0.mk (Kd.R_below HO1.out hb);replace hv0:=(hb.cell (p:=⟨vb,0,none⟩) hsz).trans hv0;replace hv1:=(hb.cell (p:=⟨vb,1,none⟩) hsz).trans hv1;replace hv2:=(hb.cell (p:=⟨vb,2,none⟩) hsz).trans hv2;clear hb hsz HB1 HO1;cases hq : p y with
    | true =>
     have HQ:=Aside0.mk hq;clear hq;go_wp2;go_roundg (l0.length - (j.toNat + 1))
     case measure=>have:=HX.out;have:=HLT.out;omega
     case rel =>
      have hx:=HX.out;have hl:=HLT.out;have hn : (j + 1).toNat = j.toNat + 1:=by omega
      refine ⟨i,j + 1,cur,rfl,by first | rfl | (rw [HWJ.out]) | (simp [HWJ.out]),⟨by omega⟩,⟨HC.out.1,?_,?_⟩,⟨by (with_reducible repeat (first | apply Kd.R_drewN | apply Kd.R_drew));exact HO.out⟩,⟨q17_⟩⟩
      ·rw [hn,HC.out.2.1,yAG.take_next HDR.out,List.filter_append];simp [HQ.out]
      ·rw [hn];have h1:=congrArg (List.drop 1) HC.out.2.2
       simpa [List.drop_drop] using h1
    | false =>
     have HQ:=Aside0.mk hq;clear hq;have hi0 : 0 ≤ i:=HX.out.1;have hi1 : i < (l0.length : Int):=by have:=HX.out;have:=HLT.out;omega
     obtain ⟨ce,hcl,hM,hcc,hfr⟩:=Kd.R_elem HO.out z58 i hi0 hi1;obtain rfl:=k58_openM hM;have hs0 : wb.cell? ⟨gb,i.toNat * 3,none⟩ = some (.int .i64 (rd_T58 cur i).f0):=hcc 0 _ rfl;have hs1 : wb.cell? ⟨gb,i.toNat * 3 + 1,none⟩ = some (.int .i64 (rd_T58 cur i).f1):=hcc 1 _ rfl;have hs2 : wb.cell? ⟨gb,i.toNat * 3 + 2,none⟩ = some (.string (rd_T58 cur i).f2):=hcc 2 _ rfl;have hf0 : wb.frozen? ⟨gb,i.toNat * 3,none⟩ = false:=hfr 0;have hf1 : wb.frozen? ⟨gb,i.toNat * 3 + 1,none⟩ = false:=hfr 1;have hf2 : wb.frozen? ⟨gb,i.toNat * 3 + 2,none⟩ = false:=hfr 2;have z:=(Kd.R_seg HO.out i hi0 hi1 (seg:=[.int .i64 y.f0,.int .i64 y.f1,.string y.f2]) (j:=0) hcl hcc (show 0 + 3 ≤ 3 by decide) (x' := y) (okp:=fun k=>True ∧ k ≠ gb) (k58_mkM _ _ _ y) (fun _ hk=>hk)).1;have HZ:=Aside0.mk z;clear hcl hM hcc hfr z;have p3:=eq_true hi0;have q3:=eq_true hi1;clear hi0 hi1;go_wp2;clear hs0 hs1 hs2 hf0 hf1 hf2 hv0 hv1 hv2;have HB2:=Aside0.mk (show Below w0.heap.size w0 (((wb.setCell ⟨gb,i.toNat * 3,none⟩ (.int .i64 y.f0)).setCell ⟨gb,i.toNat * 3 + 1,none⟩ (.int .i64 y.f1)).setCell ⟨gb,i.toNat * 3 + 2,none⟩ (.string y.f2)) from below_set (below_set (below_set HB.out HGB.out) HGB.out) HGB.out);have HZ2:=Aside0.mk (show Kd.R k58 58 (((wb.setCell ⟨gb,i.toNat * 3,none⟩ (.int .i64 y.f0)).setCell ⟨gb,i.toNat * 3 + 1,none⟩ (.int .i64 y.f1)).setCell ⟨gb,i.toNat * 3 + 2,none⟩ (.string y.f2)) w0.heap.size (fun _=>True) (.slice (some ⟨gb,0,none⟩) l0.length c0) (cur.set i.toNat y) from HZ.out);clear HZ HB HO;generalize (((wb.setCell ⟨gb,i.toNat * 3,none⟩ (.int .i64 y.f0)).setCell ⟨gb,i.toNat * 3 + 1,none⟩ (.int .i64 y.f1)).setCell ⟨gb,i.toNat * 3 + 2,none⟩ (.string y.f2)) = wz at HZ2 HB2 ⊢;go_roundg (l0.length - (j.toNat + 1))
     case measure=>have:=HX.out;have:=HLT.out;omega
     case rel =>
      have hx:=HX.out;have hl:=HLT.out;have hn : (j + 1).toNat = j.toNat + 1:=by omega
      have hni : (i + 1).toNat = i.toNat + 1:=by omega
      refine ⟨i + 1,j + 1,cur.set i.toNat y,by first | rfl | (rw [HWI.out]) | (simp [HWI.out]),by first | rfl | (rw [HWJ.out]) | (simp [HWJ.out]),⟨by omega⟩,⟨by rw [List.length_set];exact HC.out.1,?_,?_⟩,⟨HZ2.out⟩,⟨HB2.out⟩⟩
      ·rw [hn,hni,yAG.take_set_next (by rw [HC.out.1];omega),HC.out.2.1,yAG.take_next HDR.out,List.filter_append];simp [HQ.out]
      ·rw [hn,List.drop_set_of_lt (by omega)];have h1:=congrArg (List.drop 1) HC.out.2.2
       simpa [List.drop_drop] using h1
   ·have b1 : decide (j < (l0.length : Int)) = false:=decide_eq_false hlt;have hjn : j.toNat = l0.length:=by have:=HX.out;omega
    have hi1 : i < (l0.length : Int):=by have:=HX.out;omega
    have hfin : cur.take i.toNat = l0.filter (fun x=>!p x):=by rw [HC.out.2.1,hjn,List.take_length]
    have HFIN:=Aside0.mk hfin;have hi0 : 0 ≤ i:=HX.out.1;obtain ⟨k,hk⟩ : ∃ k : Nat,i = (k : Int):=⟨i.toNat,by omega⟩;subst hk;have hkn : k < l0.length:=by omega
    have hcut1:=cut_from (P:=Try.prog) 30 58 .i64 Try.underlying30 HI0.out _ HSZ0.out (some ⟨gb,0,none⟩) l0.length c0 (k : Int) (by omega) (by omega);have hcut2:=cut_to (P:=Try.prog) 30 58 .i64 Try.underlying30 HI0.out (some ⟨gb,0,none⟩) l0.length c0 (k : Int) (by omega) (by omega) HCC.out;have hcne : ¬ c0 = k:=by have:=HCC.out;omega
    have hadd : (⟨gb,0,none⟩ : Addr).add (k * 3) = ⟨gb,k * 3,none⟩:=by unfold Addr.add;split <;> simp_all
    rw [Int.toNat_natCast,if_neg hcne,Option.map_some,hadd] at hcut1;rw [Int.toNat_natCast] at hcut2;have hcl:=fun ty=>yAG.clear HO.out (l0.length - k) k (c0 - k) (by omega) (by omega) ty
    obtain ⟨ys,hy1,hy2,hy3⟩:=yAG.clr (l0.length - k) k cur wr (by omega) HO.out;have HYS:=Aside0.mk hy3;have HY2:=Aside0.mk hy2;have HBZ:=Aside0.mk (show Below w0.heap.size w0 (wr.setCells gb (k * 3) (yAG.zc (l0.length - k))) from yAG.bel HGB.out _ _ _ HB.out);have HKY:=Aside0.mk (show k ≤ ys.length by omega);clear hy1 hy2 hy3 hi0 hi1 hkn hcne hadd hjn hfin hlt;go_wp2;go_ret;have z:=Kd.R_take HYS.out HKY.out;rw [HY2.out] at z;exact ⟨_,rfl,by rw [← HFIN.out];exact z,HBZ.out⟩
/-! ### yAO: function 254 -/
def yAO.l0 : Nat → List (S58) → Int → Int → Int → Int → ByteArray → Option (Int)
 | 0,_,_,_,_,_,_=>none
 | k + 1,x0,x7,x8,x102000,x102001,x102002=>if x8 < x7 then (if 0 ≤ x8 then (if x8 < (x0.length : Int) then (if (x102000 == ((rd_T58 x0 x8).f0) && (x102001 == ((rd_T58 x0 x8).f1) && (x102002.toList == (((rd_T58 x0 x8).f2).toList)))) = true then (some x8) else (yAO.l0 k x0 x7 (wrap64 (x8 + 1)) x102000 x102001 x102002)) else (none)) else (none)) else (some (-1))
def yAO.f (k : Nat) (l0 : List (S58)) (a1_0 : Int) (a1_1 : Int) (a1_2 : ByteArray) : Option (Int):=yAO.l0 k l0 (l0.length : Int) 0 a1_0 a1_1 a1_2
set_option maxHeartbeats 8000000 in
set_option maxRecDepth 100000 in
theorem yAO.calls (k : Nat) (A0 : Option Addr) (c0 : Nat) (l0 : List (S58)) (a1_0 : Int) (a1_1 : Int) (a1_2 : ByteArray) (r : Int) (w : World) (hr0 : Kd.C k58 w A0 l0.length l0) (hc0 : l0.length ≤ c0) (h : yAO.f k l0 a1_0 a1_1 a1_2 = some r) :
  Calls Try.prog 254 #[.slice A0 l0.length c0,.agg #[.int .i64 a1_0,.int .i64 a1_1,.string a1_2]] w fun e w' => e = .returned (.int .i64 r) ∧ Below w.heap.size w w' := by
 have hu58:=Try.underlying58;have HR0:=Aside0.mk hr0;have HC0:=Aside0.mk hc0;clear hr0 hc0;have HB:=Aside0.mk (Below.refl w.heap.size w);have H : (yAO.l0 k l0 (l0.length : Int) 0 a1_0 a1_1 a1_2) = some r:=h;clear h;have H' := Aside0.mk H;clear H;go_enter Try.func254,Try.ntmps254
 iterate 3 (go_wp2_with (first | ((with_reducible refine gate_dst (N:=3) rfl ?_);refine box_event ?hg (N:=3) ?hd (cs:=#[.int .i64 a1_0,.int .i64 a1_1,.string a1_2]) (t:=58) ?hr ?_;(case hd=>rfl);(case hg=>rfl);(case hr=>first | (go_simp;done) | (go_simp;rfl));intro gb101 hg w3 hbox hb;have BK101:=Aside0.mk (hbox);have GW101:=Aside0.mk ((q60_ : w.heap.size ≤ gb101));have GE101:=Aside0.mk ((q60_ : w.heap.size ≤ gb101));replace HB:=bS_ HB hb;clear hb hbox hg));try go_quiet (fail))
 go_loopg [8] k (fun kq v8 w' => ∃ (x8_1 : Int),v8 = .int .i64 x8_1 ∧ Aside0 (yAO.l0 kq l0 (l0.length : Int) x8_1 a1_0 a1_1 a1_2 = some r) ∧ Aside0 (kq ≤ k) ∧ Aside0 (w'.heap[gb101]? = some (.cells #[.int .i64 a1_0,.int .i64 a1_1,.string a1_2] 58 (0,0))) ∧ Aside0 (Below w.heap.size w w'))
 case atStart=>exact ⟨(0),(q1_),H', ⟨Nat.le_refl _⟩,⟨q18_⟩,⟨q27_⟩⟩
 case round =>
  clear H';obtain ⟨x8_1,rfl,HA,HK1,BK101,HB⟩:=hrel;cases gk with
  | zero=>exact absurd HA.out (by simp [yAO.l0])
  | succ k1 =>
   have H:=HA.out;clear HA;simp only [yAO.l0] at H;by_cases c4 : x8_1 < (l0.length : Int)
   ·rw [if_pos c4] at H;have c4b0:=decide_eq_true c4;clear c4;by_cases c5 : 0 ≤ x8_1
    ·rw [if_pos c5] at H;have c5b0:=decide_eq_true c5;clear c5;by_cases c6 : x8_1 < (l0.length : Int)
     ·rw [if_pos c6] at H;have c6b0:=decide_eq_true c6;clear c6;by_cases c7 : (a1_0 == ((rd_T58 l0 x8_1).f0) && (a1_1 == ((rd_T58 l0 x8_1).f1) && (a1_2.toList == (((rd_T58 l0 x8_1).f2).toList)))) = true
      ·rw [if_pos c7] at H;have c7b0 : (a1_0 == ((rd_T58 l0 x8_1).f0) && (a1_1 == ((rd_T58 l0 x8_1).f1) && (a1_2.toList == (((rd_T58 l0 x8_1).f2).toList)))) = true:=c7
       (try (have c7b1 : decide (a1_0 = ((rd_T58 l0 x8_1).f0) && (a1_1 == ((rd_T58 l0 x8_1).f1) && (a1_2.toList == (((rd_T58 l0 x8_1).f2).toList)))) = true:=by simpa using c7))
       (try (have c7b2 : (a1_0 == ((rd_T58 l0 x8_1).f0) && (a1_1 == ((rd_T58 l0 x8_1).f1) && (a1_2.toList == (((rd_T58 l0 x8_1).f2).toList)))) = true:=by simpa using c7))
       clear c7;obtain rfl:=Option.some.inj H;obtain ⟨hcz8_0,hcz8_1,hcz8_2,hfz8_0,hfz8_1,hfz8_2⟩:=bx3_ BK101.out;have p102 : 0 ≤ (x8_1 : Int):=of_decide_eq_true (q2_);have q102 : x8_1 < (l0.length : Int):=of_decide_eq_true (q2_);obtain ⟨ad102,e102,hx102_0,hx102_1,hx102_2⟩:=at_T58 HR0.out x8_1 p102 q102;cases e102;replace hx102_0:=hB_ HB.out hx102_0;replace hx102_1:=hB_ HB.out hx102_1;replace hx102_2:=hB_ HB.out hx102_2;replace p102:=eq_true p102;replace q102:=eq_true q102;go_wp2;repeat (go_quiet (fail);try go_wp2)
       go_ret;exact ⟨q4_,q27_⟩
      ·rw [if_neg c7] at H;have c7b0 : (a1_0 == ((rd_T58 l0 x8_1).f0) && (a1_1 == ((rd_T58 l0 x8_1).f1) && (a1_2.toList == (((rd_T58 l0 x8_1).f2).toList)))) = false:=by simpa using c7
       (try (have c7b1 : decide (a1_0 = ((rd_T58 l0 x8_1).f0) && (a1_1 == ((rd_T58 l0 x8_1).f1) && (a1_2.toList == (((rd_T58 l0 x8_1).f2).toList)))) = false:=by simpa using c7))
       (try (have c7b2 : (a1_0 == ((rd_T58 l0 x8_1).f0) && (a1_1 == ((rd_T58 l0 x8_1).f1) && (a1_2.toList == (((rd_T58 l0 x8_1).f2).toList)))) = false:=by simpa using c7))
       (try (have c7b3 : ¬ (a1_0 = ((rd_T58 l0 x8_1).f0) && (a1_1 == ((rd_T58 l0 x8_1).f1) && (a1_2.toList == (((rd_T58 l0 x8_1).f2).toList)))):=by simpa using c7))
       clear c7;have H' := Aside0.mk H;clear H;obtain ⟨hcz9_0,hcz9_1,hcz9_2,hfz9_0,hfz9_1,hfz9_2⟩:=bx3_ BK101.out;have p102 : 0 ≤ (x8_1 : Int):=of_decide_eq_true (q2_);have q102 : x8_1 < (l0.length : Int):=of_decide_eq_true (q2_);obtain ⟨ad102,e102,hx102_0,hx102_1,hx102_2⟩:=at_T58 HR0.out x8_1 p102 q102;cases e102;replace hx102_0:=hB_ HB.out hx102_0;replace hx102_1:=hB_ HB.out hx102_1;replace hx102_2:=hB_ HB.out hx102_2;replace p102:=eq_true p102;replace q102:=eq_true q102;go_wp2;repeat (go_quiet (fail);try go_wp2)
       go_roundg k1
       case measure=>have:=HK1.out;omega
       case rel=>exact ⟨(wrap64 (x8_1 + 1)),(q1_),H', ⟨by have:=HK1.out;omega⟩,⟨q18_⟩,⟨q27_⟩⟩
     ·rw [if_neg c6] at H;exact absurd H (by simp)
    ·rw [if_neg c5] at H;exact absurd H (by simp)
   ·rw [if_neg c4] at H;have c4b0:=decide_eq_false c4;clear c4;obtain rfl:=Option.some.inj H;go_wp2;repeat (go_quiet (fail);try go_wp2)
    go_ret;exact ⟨q4_,q27_⟩
/-! ### yAi: function 199 -/
def yAi.f (k : Nat) (l0 : List (S58)) (a1_0 : Int) (a1_1 : Int) (a1_2 : ByteArray) : Option (Bool):=(yAO.f k l0 a1_0 a1_1 a1_2).bind fun t102=>(some (decide (t102 ≥ 0)))
set_option maxHeartbeats 8000000 in
set_option maxRecDepth 100000 in
theorem yAi.calls (k : Nat) (A0 : Option Addr) (c0 : Nat) (l0 : List (S58)) (a1_0 : Int) (a1_1 : Int) (a1_2 : ByteArray) (r : Bool) (w : World) (hr0 : Kd.C k58 w A0 l0.length l0) (hc0 : l0.length ≤ c0) (h : yAi.f k l0 a1_0 a1_1 a1_2 = some r) :
  Calls Try.prog 199 #[.slice A0 l0.length c0,.agg #[.int .i64 a1_0,.int .i64 a1_1,.string a1_2]] w fun e w' => e = .returned (.bool r) ∧ Below w.heap.size w w' := by
 have hu58:=Try.underlying58;have HR0:=Aside0.mk hr0;have HC0:=Aside0.mk hc0;clear hr0 hc0;have HB:=Aside0.mk (Below.refl w.heap.size w);have H : ((yAO.f k l0 a1_0 a1_1 a1_2).bind fun t102=>(some (decide (t102 ≥ 0)))) = some r:=h;clear h;replace H:=Option.bind_eq_some_iff.mp H;obtain ⟨t102,A30,H⟩:=H;(try dsimp only at H);have A3:=Aside0.mk A30;clear A30;obtain rfl:=Option.some.inj H;go_enter Try.func199,Try.ntmps199
 go_wp2_with (first | ((with_reducible refine gate_dst (N:=3) rfl ?_);refine box_event ?hg (N:=3) ?hd (cs:=#[.int .i64 a1_0,.int .i64 a1_1,.string a1_2]) (t:=58) ?hr ?_;(case hd=>rfl);(case hg=>rfl);(case hr=>first | (go_simp;done) | (go_simp;rfl));intro gb101 hg w4 hbox hb;have BK101:=Aside0.mk (hbox);have GW101:=Aside0.mk ((q60_ : w.heap.size ≤ gb101));have GE101:=Aside0.mk ((q60_ : w.heap.size ≤ gb101));replace HB:=bS_ HB hb;clear hb hbox hg;obtain ⟨hcz5_0,hcz5_1,hcz5_2,hfz5_0,hfz5_1,hfz5_2⟩:=bx3_ BK101.out) | ((with_reducible refine gate_callee (f:=254) rfl ?_);refine goesL_ (some 7) rfl rfl Try.func254 (by kernel_rfl) rfl #[.slice A0 l0.length c0,.agg #[.int .i64 a1_0,.int .i64 a1_1,.string a1_2]] rfl (q23_) ?_;(with_reducible refine (yAO.calls k _ _ l0 a1_0 a1_1 a1_2 t102 _ ?side1 ?side2 A3.out).mono ?_);(case side1=>exact cX_ (Kd.C_below HR0.out HB.out));(case side2=>exact HC0.out);rintro e w6 ⟨rfl,hb⟩;refine ⟨_,rfl,?_⟩;replace BK101:=bkB_ BK101 hb;replace HB:=Aside0.mk (below_step (q27_) hb);(try clear hb)))
 go_ret;exact ⟨q4_,q27_⟩
end Go.Proofs.Ytgapcmmhbegdeaa.G
