-- Written by this session's own program over the kit's print (wip/tools/myprint.py); Lean checks it.
import Derived.Test.YtgapcmmhbegdeaaMBase
import Derived.Test.YtgapcmmhbegdeaaG0
import Derived.Test.YtgapcmmhbegdeaaG8
import Derived.Test.YtgapcmmhbegdeaaG46
import Derived.Test.YtgapcmmhbegdeaaG49
import Derived.Test.YtgapcmmhbegdeaaG57
namespace Go.Proofs.Ytgapcmmhbegdeaa.G
open Go.RowKit Go.Proofs.YtgapcmmhbegdeaaW.PrintWords Go.Proofs.YtgapcmmhbegdeaaW.PrintLast Go.Proofs.YtgapcmmhbegdeaaW.PrintMore
attribute [local go_sem] max2_int min2_int max_two min_two max_three min_three max_four min_four str_geq str_gtr str_leq   -- for this text's walks alone
set_option linter.unusedVariables false
set_option linter.unusedSimpArgs false
/-! ### laws_FnMerges: function 11 -/
mutual
def laws_FnMerges.j0 : Nat → List (S58) → List (S58) → List (S58) → Bool → List (S58) → List (List Int) → List (List Int) → List (S58) → Bool → Bool → Option (Bool)
 | 0,_,_,_,_,_,_,_,_,_,_=>none
 | k + 1,x5,x6,x7,x9,x10,x11,x15,x17,x18,x132=>if x132 = true then (some false) else (if x9 = true then ((laws_qLists.f k x11 x15).bind fun t141=>(if t141 = true then ((impl_IsTier.f k x7).bind fun t142=>(laws_FnMerges.j1 k x5 x6 x7 x10 x15 x17 x18 (!t142))) else (laws_FnMerges.j1 k x5 x6 x7 x10 x15 x17 x18 true))) else (laws_FnMerges.j6 k x5 x17 x18))
def laws_FnMerges.j6 : Nat → List (S58) → List (S58) → Bool → Option (Bool)
 | 0,_,_,_=>none
 | k + 1,x5,x17,x18=>if x18 = true then ((impl_OnlyIn.f k x5 x17).bind fun bt173=>(if bt173.2 = true then (if (bt173.1.length : Int) > 0 then (some false) else ((impl_IsTier.f k x17).bind fun t177=>(if t177 = true then (some true) else (some false)))) else (some false))) else (some true)
def laws_FnMerges.j1 : Nat → List (S58) → List (S58) → List (S58) → List (S58) → List (List Int) → List (S58) → Bool → Bool → Option (Bool)
 | 0,_,_,_,_,_,_,_,_=>none
 | k + 1,x5,x6,x7,x10,x15,x17,x18,x142=>if x142 = true then (some false) else (laws_FnMerges.l0 k x5 x6 x7 x10 x15 x17 x18 x5 (x5.length : Int) 0)
def laws_FnMerges.l0 : Nat → List (S58) → List (S58) → List (S58) → List (S58) → List (List Int) → List (S58) → Bool → List (S58) → Int → Int → Option (Bool)
 | 0,_,_,_,_,_,_,_,_,_,_=>none
 | k + 1,x5,x6,x7,x10,x15,x17,x18,x143,x144,x145=>if x145 < x144 then (if 0 ≤ x145 then (if x145 < (x143.length : Int) then (laws_FnMerges.l1 k x5 x6 x7 x10 x15 x17 x18 x145 false x143 x144 x145 x15 (x15.length : Int) 0 ((rd_T58 x143 x145).f0) ((rd_T58 x143 x145).f1) ((rd_T58 x143 x145).f2)) else (none)) else (none)) else (laws_FnMerges.l2 k x5 x6 x7 x10 x15 x17 x18 x6 (x6.length : Int) 0)
def laws_FnMerges.l1 : Nat → List (S58) → List (S58) → List (S58) → List (S58) → List (List Int) → List (S58) → Bool → Int → Bool → List (S58) → Int → Int → List (List Int) → Int → Int → Int → Int → ByteArray → Option (Bool)
 | 0,_,_,_,_,_,_,_,_,_,_,_,_,_,_,_,_,_,_=>none
 | k + 1,x5,x6,x7,x10,x15,x17,x18,x21,x23,x143,x144,x145,x150,x151,x152,x145000,x145001,x145002=>if x152 < x151 then (if 0 ≤ x152 then (if x152 < (x150.length : Int) then (if x23 = true then (laws_FnMerges.l1 k x5 x6 x7 x10 x15 x17 x18 x21 true x143 x144 x145 x150 x151 (wrap64 (x152 + 1)) x145000 x145001 x145002) else (if 0 < ((rd_L15 x150 x152).length : Int) then (laws_FnMerges.l1 k x5 x6 x7 x10 x15 x17 x18 x21 ((rd (rd_L15 x150 x152) 0) == x21) x143 x144 x145 x150 x151 (wrap64 (x152 + 1)) x145000 x145001 x145002) else (none))) else (none)) else (none)) else ((impl_OnlyIn.f k (([(⟨x145000,x145001,x145002⟩ : S58)] : List (S58))) x7).bind fun bt150=>(if bt150.2 = true then (if ((decide ((bt150.1.length : Int) > 0)) != x23) = true then (some false) else (laws_FnMerges.l0 k x5 x6 x7 x10 x15 x17 x18 x143 x144 (wrap64 (x145 + 1)))) else (some false)))
def laws_FnMerges.l2 : Nat → List (S58) → List (S58) → List (S58) → List (S58) → List (List Int) → List (S58) → Bool → List (S58) → Int → Int → Option (Bool)
 | 0,_,_,_,_,_,_,_,_,_,_=>none
 | k + 1,x5,x6,x7,x10,x15,x17,x18,x182,x183,x184=>if x184 < x183 then (if 0 ≤ x184 then (if x184 < (x182.length : Int) then (laws_FnMerges.l3 k x5 x6 x7 x10 x15 x17 x18 x184 false x182 x183 x184 x15 (x15.length : Int) 0 ((rd_T58 x182 x184).f0) ((rd_T58 x182 x184).f1) ((rd_T58 x182 x184).f2)) else (none)) else (none)) else ((impl_MergeTiers.f k x6 x5).bind fun bt165=>(if bt165.2.2 = true then ((laws_qNotes.f k bt165.1 x10).bind fun t172=>(if t172 = true then (laws_FnMerges.j6 k x5 x17 x18) else (some false))) else (some false)))
def laws_FnMerges.l3 : Nat → List (S58) → List (S58) → List (S58) → List (S58) → List (List Int) → List (S58) → Bool → Int → Bool → List (S58) → Int → Int → List (List Int) → Int → Int → Int → Int → ByteArray → Option (Bool)
 | 0,_,_,_,_,_,_,_,_,_,_,_,_,_,_,_,_,_,_=>none
 | k + 1,x5,x6,x7,x10,x15,x17,x18,x28,x30,x182,x183,x184,x189,x190,x191,x156000,x156001,x156002=>if x191 < x190 then (if 0 ≤ x191 then (if x191 < (x189.length : Int) then (if x30 = true then (laws_FnMerges.l3 k x5 x6 x7 x10 x15 x17 x18 x28 true x182 x183 x184 x189 x190 (wrap64 (x191 + 1)) x156000 x156001 x156002) else (if 1 < ((rd_L15 x189 x191).length : Int) then (laws_FnMerges.l3 k x5 x6 x7 x10 x15 x17 x18 x28 ((rd (rd_L15 x189 x191) 1) == x28) x182 x183 x184 x189 x190 (wrap64 (x191 + 1)) x156000 x156001 x156002) else (none))) else (none)) else (none)) else ((impl_OnlyIn.f k (([(⟨x156000,x156001,x156002⟩ : S58)] : List (S58))) x7).bind fun bt161=>(if bt161.2 = true then (if ((decide ((bt161.1.length : Int) > 0)) != x30) = true then (some false) else (laws_FnMerges.l2 k x5 x6 x7 x10 x15 x17 x18 x182 x183 (wrap64 (x184 + 1)))) else (some false)))
end
def laws_FnMerges.f (k : Nat) (l0 : List Int) (l1 : List Int) : Option (Bool):=if (wrap64 ((l0.length : Int) + (l1.length : Int))) > 1048576 then (some true) else ((spec_DrawMergeTiers.f k l0).bind fun bt101=>((impl_MergeTiers.f k bt101.1 bt101.2).bind fun bt107=>((spec_MergeTiers.f k bt101.1 bt101.2).bind fun bt114=>((impl_ConflictsOf.f k bt101.1 bt101.2).bind fun bt121=>((spec_ConflictsOf.f k bt101.1 bt101.2).bind fun bt125=>((impl_MergeFor.f k bt101.1 bt101.2).bind fun bt129=>((spec_MergeFor.f k bt101.1 bt101.2).bind fun bt133=>(if (bt107.2.2 != bt114.2.2) = true then (laws_FnMerges.j0 k bt101.1 bt101.2 bt107.1 bt107.2.2 bt114.1 bt114.2.1 bt125.1 bt129.1 bt129.2 true) else ((laws_qNotes.f k bt107.1 bt114.1).bind fun t137=>(if t137 = true then ((laws_qLists.f k bt107.2.1 bt114.2.1).bind fun t138=>(if t138 = true then (if (bt121.2 != bt125.2) = true then (laws_FnMerges.j0 k bt101.1 bt101.2 bt107.1 bt107.2.2 bt114.1 bt114.2.1 bt125.1 bt129.1 bt129.2 true) else ((laws_qLists.f k bt121.1 bt125.1).bind fun t139=>(if t139 = true then (if (bt129.2 != bt133.2) = true then (laws_FnMerges.j0 k bt101.1 bt101.2 bt107.1 bt107.2.2 bt114.1 bt114.2.1 bt125.1 bt129.1 bt129.2 true) else ((laws_qNotes.f k bt129.1 bt133.1).bind fun t140=>(if t140 = true then (if bt107.2.2 = true then (laws_FnMerges.j0 k bt101.1 bt101.2 bt107.1 bt107.2.2 bt114.1 bt114.2.1 bt125.1 bt129.1 bt129.2 (!bt121.2)) else (laws_FnMerges.j0 k bt101.1 bt101.2 bt107.1 bt107.2.2 bt114.1 bt114.2.1 bt125.1 bt129.1 bt129.2 false)) else (laws_FnMerges.j0 k bt101.1 bt101.2 bt107.1 bt107.2.2 bt114.1 bt114.2.1 bt125.1 bt129.1 bt129.2 true)))) else (laws_FnMerges.j0 k bt101.1 bt101.2 bt107.1 bt107.2.2 bt114.1 bt114.2.1 bt125.1 bt129.1 bt129.2 true)))) else (laws_FnMerges.j0 k bt101.1 bt101.2 bt107.1 bt107.2.2 bt114.1 bt114.2.1 bt125.1 bt129.1 bt129.2 true))) else (laws_FnMerges.j0 k bt101.1 bt101.2 bt107.1 bt107.2.2 bt114.1 bt114.2.1 bt125.1 bt129.1 bt129.2 true)))))))))))
theorem laws_FnMerges.j0_no {k : Nat} {y0 : _} {y1 : _} {y2 : _} {y3 : _} {y4 : _} {y5 : _} {y6 : _} {y7 : _} {y8 : _} {r : Bool} (h : laws_FnMerges.j0 k y0 y1 y2 y3 y4 y5 y6 y7 y8 true = some r) (hr : r = true) : False:=by
 subst hr;cases k with
 | zero=>simp [laws_FnMerges.j0] at h
 | succ k=>rw [laws_FnMerges.j0.eq_2,if_pos rfl] at h;exact absurd (Option.some.inj h) (by decide)
theorem laws_FnMerges.j1_no {k : Nat} {y0 : _} {y1 : _} {y2 : _} {y3 : _} {y4 : _} {y5 : _} {y6 : _} {r : Bool} (h : laws_FnMerges.j1 k y0 y1 y2 y3 y4 y5 y6 true = some r) (hr : r = true) : False:=by
 subst hr;cases k with
 | zero=>simp [laws_FnMerges.j1] at h
 | succ k=>rw [laws_FnMerges.j1.eq_2,if_pos rfl] at h;exact absurd (Option.some.inj h) (by decide)
set_option maxHeartbeats 8000000 in
set_option maxRecDepth 100000 in
theorem laws_FnMerges.calls (k : Nat) (A0 : Option Addr) (c0 : Nat) (l0 : List Int) (A1 : Option Addr) (c1 : Nat) (l1 : List Int) (r : Bool) (w : World) (hr0 : Kd.C (Kd.int .u8) w A0 l0.length l0) (hc0 : l0.length ≤ c0) (hr1 : Kd.C (Kd.int .u8) w A1 l1.length l1) (hc1 : l1.length ≤ c1) (ht_ : Aside0 (r = true)) (h : laws_FnMerges.f k l0 l1 = some r) :
  Calls Try.prog 11 #[.slice A0 l0.length c0,.slice A1 l1.length c1] w fun e w' => e = .returned (.bool r) ∧ Below w.heap.size w w' := by
 have hu58:=Try.underlying58;have HR0:=Aside0.mk hr0;have HC0:=Aside0.mk hc0;clear hr0 hc0;have HR1:=Aside0.mk hr1;have HC1:=Aside0.mk hc1;clear hr1 hc1;have HB:=Aside0.mk (Below.refl w.heap.size w);have H : (if (wrap64 ((l0.length : Int) + (l1.length : Int))) > 1048576 then (some true) else ((spec_DrawMergeTiers.f k l0).bind fun bt101=>((impl_MergeTiers.f k bt101.1 bt101.2).bind fun bt107=>((spec_MergeTiers.f k bt101.1 bt101.2).bind fun bt114=>((impl_ConflictsOf.f k bt101.1 bt101.2).bind fun bt121=>((spec_ConflictsOf.f k bt101.1 bt101.2).bind fun bt125=>((impl_MergeFor.f k bt101.1 bt101.2).bind fun bt129=>((spec_MergeFor.f k bt101.1 bt101.2).bind fun bt133=>(if (bt107.2.2 != bt114.2.2) = true then (laws_FnMerges.j0 k bt101.1 bt101.2 bt107.1 bt107.2.2 bt114.1 bt114.2.1 bt125.1 bt129.1 bt129.2 true) else ((laws_qNotes.f k bt107.1 bt114.1).bind fun t137=>(if t137 = true then ((laws_qLists.f k bt107.2.1 bt114.2.1).bind fun t138=>(if t138 = true then (if (bt121.2 != bt125.2) = true then (laws_FnMerges.j0 k bt101.1 bt101.2 bt107.1 bt107.2.2 bt114.1 bt114.2.1 bt125.1 bt129.1 bt129.2 true) else ((laws_qLists.f k bt121.1 bt125.1).bind fun t139=>(if t139 = true then (if (bt129.2 != bt133.2) = true then (laws_FnMerges.j0 k bt101.1 bt101.2 bt107.1 bt107.2.2 bt114.1 bt114.2.1 bt125.1 bt129.1 bt129.2 true) else ((laws_qNotes.f k bt129.1 bt133.1).bind fun t140=>(if t140 = true then (if bt107.2.2 = true then (laws_FnMerges.j0 k bt101.1 bt101.2 bt107.1 bt107.2.2 bt114.1 bt114.2.1 bt125.1 bt129.1 bt129.2 (!bt121.2)) else (laws_FnMerges.j0 k bt101.1 bt101.2 bt107.1 bt107.2.2 bt114.1 bt114.2.1 bt125.1 bt129.1 bt129.2 false)) else (laws_FnMerges.j0 k bt101.1 bt101.2 bt107.1 bt107.2.2 bt114.1 bt114.2.1 bt125.1 bt129.1 bt129.2 true)))) else (laws_FnMerges.j0 k bt101.1 bt101.2 bt107.1 bt107.2.2 bt114.1 bt114.2.1 bt125.1 bt129.1 bt129.2 true)))) else (laws_FnMerges.j0 k bt101.1 bt101.2 bt107.1 bt107.2.2 bt114.1 bt114.2.1 bt125.1 bt129.1 bt129.2 true))) else (laws_FnMerges.j0 k bt101.1 bt101.2 bt107.1 bt107.2.2 bt114.1 bt114.2.1 bt125.1 bt129.1 bt129.2 true)))))))))))) = some r:=h;clear h;by_cases c3 : (wrap64 ((l0.length : Int) + (l1.length : Int))) > 1048576
 ·rw [if_pos c3] at H;have c3b0 : decide (1048576 < (wrap64 ((l0.length : Int) + (l1.length : Int)))) = true:=decide_eq_true c3;clear c3;obtain rfl:=Option.some.inj H;go_enter Try.func11,Try.ntmps11
  go_wp2;go_ret;exact ⟨q4_,q22_⟩
 ·rw [if_neg c3] at H;have c3b0 : decide (1048576 < (wrap64 ((l0.length : Int) + (l1.length : Int)))) = false:=decide_eq_false c3;clear c3;replace H:=Option.bind_eq_some_iff.mp H;obtain ⟨⟨t101,t102⟩,A40,H⟩:=H;(try dsimp only at H);have A4:=Aside0.mk A40;clear A40;replace H:=Option.bind_eq_some_iff.mp H;obtain ⟨⟨t107,t108,t109⟩,A50,H⟩:=H;(try dsimp only at H);have A5:=Aside0.mk A50;clear A50;replace H:=Option.bind_eq_some_iff.mp H;obtain ⟨⟨t114,t115,t116⟩,A60,H⟩:=H;(try dsimp only at H);have A6:=Aside0.mk A60;clear A60;replace H:=Option.bind_eq_some_iff.mp H;obtain ⟨⟨t121,t122⟩,A70,H⟩:=H;(try dsimp only at H);have A7:=Aside0.mk A70;clear A70;replace H:=Option.bind_eq_some_iff.mp H;obtain ⟨⟨t125,t126⟩,A80,H⟩:=H;(try dsimp only at H);have A8:=Aside0.mk A80;clear A80;replace H:=Option.bind_eq_some_iff.mp H;obtain ⟨⟨t129,t130⟩,A90,H⟩:=H;(try dsimp only at H);have A9:=Aside0.mk A90;clear A90;replace H:=Option.bind_eq_some_iff.mp H;obtain ⟨⟨t133,t134⟩,A100,H⟩:=H;(try dsimp only at H);have A10:=Aside0.mk A100;clear A100;have HC11:=Aside0.mk H;clear H;go_enter Try.func11,Try.ntmps11
  go_upto_region 10 with (first | ((with_reducible refine gate_callee (f:=90) rfl ?_);refine goesL_ (some 48) rfl rfl Try.func90 (by kernel_rfl) rfl #[.slice A0 l0.length c0] rfl (q24_) ?_;(with_reducible refine (spec_DrawMergeTiers.calls k _ _ l0 t101 t102 _ ?side1 ?side2 A4.out).mono ?_);(case side1=>exact cX_ HR0.out);(case side2=>exact HC0.out);rintro e w12 ⟨v103,v105,rfl,ho0,ho1,hb⟩;refine ⟨_,rfl,?_⟩;have HO104:=Aside0.mk (Kd.R_lower ho0 (below_size (q22_)));have HO106:=Aside0.mk (Kd.R_lower ho1 (below_size (q22_)));replace HB:=bS_ HB hb;(try clear hb);(try clear ho0);(try clear ho1);obtain ⟨Ao13,co13,eo13⟩:=Kd.R_slice HO104.out;subst eo13;obtain ⟨Ao14,co14,eo14⟩:=Kd.R_slice HO106.out;subst eo14) | ((with_reducible refine gate_callee (f:=91) rfl ?_);refine goesL_ (some 54) rfl rfl Try.func91 (by kernel_rfl) rfl #[.slice Ao13 t101.length co13,.slice Ao14 t102.length co14] rfl (q24_) ?_;(with_reducible refine (impl_MergeTiers.calls k _ _ t101 _ _ t102 t107 t108 t109 _ ?side1 ?side2 ?side3 ?side4 A5.out).mono ?_);(case side1=>exact cX_ (Kd.R_reads' HO104.out).2.2);(case side2=>exact (Kd.R_reads' HO104.out).2.1);(case side3=>exact cX_ (Kd.R_reads' HO106.out).2.2);(case side4=>exact (Kd.R_reads' HO106.out).2.1);rintro e w15 ⟨v110,v112,rfl,ho0,ho1,hb⟩;refine ⟨_,rfl,?_⟩;have HO111:=Aside0.mk (Kd.R_lower (Kd.R_new' (Kd.R_new' ho0 (Kd.R_lt (q13_))) (Kd.R_lt (q12_))) (below_size (q22_)));replace HO104:=rE_ HO104 ho0 hb;replace HO106:=rE_ HO106 ho0 hb;have HO113:=Aside0.mk (Kd.S_lower ho1 (below_size (q22_)));replace HB:=bS_ HB hb;(try clear hb);(try clear ho0);(try clear ho1)) | ((with_reducible refine gate_callee (f:=92) rfl ?_);refine goesL_ (some 61) rfl rfl Try.func92 (by kernel_rfl) rfl #[.slice Ao13 t101.length co13,.slice Ao14 t102.length co14] rfl (q24_) ?_;(with_reducible refine (spec_MergeTiers.calls k _ _ t101 _ _ t102 t114 t115 t116 _ ?side1 ?side2 ?side3 ?side4 A6.out).mono ?_);(case side1=>exact cX_ (Kd.R_reads' HO104.out).2.2);(case side2=>exact (Kd.R_reads' HO104.out).2.1);(case side3=>exact cX_ (Kd.R_reads' HO106.out).2.2);(case side4=>exact (Kd.R_reads' HO106.out).2.1);rintro e w16 ⟨v117,v119,rfl,ho0,ho1,hb⟩;refine ⟨_,rfl,?_⟩;have HO118:=Aside0.mk (Kd.R_lower (Kd.R_new' (Kd.R_new' (Kd.R_new' ho0 (Kd.R_lt (q13_))) (Kd.R_lt (q12_))) (Kd.R_lt (by (with_reducible repeat (first | apply Kd.R_alloc | apply Kd.R_drewN | apply Kd.R_drew));exact HO111.out))) (below_size (q22_)));replace HO104:=rE_ HO104 ho0 hb;replace HO106:=rE_ HO106 ho0 hb;replace HO111:=rE_ HO111 ho0 hb;have HO120:=Aside0.mk (Kd.S_lower (Kd.S_new' ho1 (Kd.S_lt (q14_))) (below_size (q22_)));replace HO113:=Aside0.mk (Kd.S_elder' (q14_) (Kd.S_base ho1) hb);replace HB:=bS_ HB hb;(try clear hb);(try clear ho0);(try clear ho1)) | ((with_reducible refine gate_callee (f:=93) rfl ?_);refine goesL_ (some 68) rfl rfl Try.func93 (by kernel_rfl) rfl #[.slice Ao13 t101.length co13,.slice Ao14 t102.length co14] rfl (q24_) ?_;(with_reducible refine (impl_ConflictsOf.calls k _ _ t101 _ _ t102 t121 t122 _ ?side1 ?side2 ?side3 ?side4 A7.out).mono ?_);(case side1=>exact cX_ (Kd.R_reads' HO104.out).2.2);(case side2=>exact (Kd.R_reads' HO104.out).2.1);(case side3=>exact cX_ (Kd.R_reads' HO106.out).2.2);(case side4=>exact (Kd.R_reads' HO106.out).2.1);rintro e w17 ⟨v123,rfl,ho0,hb⟩;refine ⟨_,rfl,?_⟩;replace HO104:=rB_ HO104 hb;replace HO106:=rB_ HO106 hb;replace HO111:=rB_ HO111 hb;replace HO118:=rB_ HO118 hb;have HO124:=Aside0.mk (Kd.S_lower (Kd.S_new' (Kd.S_new' ho0 (Kd.S_lt (q14_))) (Kd.S_lt (by (with_reducible repeat (first | apply Kd.S_alloc | apply Kd.S_drewN | apply Kd.S_drew));exact HO120.out))) (below_size (q22_)));replace HO113:=Aside0.mk (Kd.S_elder' (q14_) (Kd.S_base ho0) hb);replace HO120:=Aside0.mk (Kd.S_elder' (by (with_reducible repeat (first | apply Kd.S_alloc | apply Kd.S_drewN | apply Kd.S_drew));exact HO120.out) (Kd.S_base ho0) hb);replace HB:=bS_ HB hb;(try clear hb);(try clear ho0)) | ((with_reducible refine gate_callee (f:=94) rfl ?_);refine goesL_ (some 74) rfl rfl Try.func94 (by kernel_rfl) rfl #[.slice Ao13 t101.length co13,.slice Ao14 t102.length co14] rfl (q24_) ?_;(with_reducible refine (spec_ConflictsOf.calls k _ _ t101 _ _ t102 t125 t126 _ ?side1 ?side2 ?side3 ?side4 A8.out).mono ?_);(case side1=>exact cX_ (Kd.R_reads' HO104.out).2.2);(case side2=>exact (Kd.R_reads' HO104.out).2.1);(case side3=>exact cX_ (Kd.R_reads' HO106.out).2.2);(case side4=>exact (Kd.R_reads' HO106.out).2.1);rintro e w18 ⟨v127,rfl,ho0,hb⟩;refine ⟨_,rfl,?_⟩;replace HO104:=rB_ HO104 hb;replace HO106:=rB_ HO106 hb;replace HO111:=rB_ HO111 hb;replace HO118:=rB_ HO118 hb;have HO128:=Aside0.mk (Kd.S_lower (Kd.S_new' (Kd.S_new' (Kd.S_new' ho0 (Kd.S_lt (q14_))) (Kd.S_lt (by (with_reducible repeat (first | apply Kd.S_alloc | apply Kd.S_drewN | apply Kd.S_drew));exact HO120.out))) (Kd.S_lt (by (with_reducible repeat (first | apply Kd.S_alloc | apply Kd.S_drewN | apply Kd.S_drew));exact HO124.out))) (below_size (q22_)));replace HO113:=Aside0.mk (Kd.S_elder' (q14_) (Kd.S_base ho0) hb);replace HO120:=Aside0.mk (Kd.S_elder' (by (with_reducible repeat (first | apply Kd.S_alloc | apply Kd.S_drewN | apply Kd.S_drew));exact HO120.out) (Kd.S_base ho0) hb);replace HO124:=Aside0.mk (Kd.S_elder' (by (with_reducible repeat (first | apply Kd.S_alloc | apply Kd.S_drewN | apply Kd.S_drew));exact HO124.out) (Kd.S_base ho0) hb);replace HB:=bS_ HB hb;(try clear hb);(try clear ho0)) | ((with_reducible refine gate_callee (f:=95) rfl ?_);refine goesL_ (some 80) rfl rfl Try.func95 (by kernel_rfl) rfl #[.slice Ao13 t101.length co13,.slice Ao14 t102.length co14] rfl (q24_) ?_;(with_reducible refine (impl_MergeFor.calls k _ _ t101 _ _ t102 t129 t130 _ ?side1 ?side2 ?side3 ?side4 A9.out).mono ?_);(case side1=>exact cX_ (Kd.R_reads' HO104.out).2.2);(case side2=>exact (Kd.R_reads' HO104.out).2.1);(case side3=>exact cX_ (Kd.R_reads' HO106.out).2.2);(case side4=>exact (Kd.R_reads' HO106.out).2.1);rintro e w19 ⟨v131,rfl,ho0,hb⟩;refine ⟨_,rfl,?_⟩;replace HO113:=Aside0.mk (Kd.S_below (q14_) hb);replace HO120:=Aside0.mk (Kd.S_below (by (with_reducible repeat (first | apply Kd.S_alloc | apply Kd.S_drewN | apply Kd.S_drew));exact HO120.out) hb);replace HO124:=Aside0.mk (Kd.S_below (by (with_reducible repeat (first | apply Kd.S_alloc | apply Kd.S_drewN | apply Kd.S_drew));exact HO124.out) hb);replace HO128:=Aside0.mk (Kd.S_below (by (with_reducible repeat (first | apply Kd.S_alloc | apply Kd.S_drewN | apply Kd.S_drew));exact HO128.out) hb);have HO132:=Aside0.mk (Kd.R_lower (Kd.R_new' (Kd.R_new' (Kd.R_new' (Kd.R_new' ho0 (Kd.R_lt (q13_))) (Kd.R_lt (q12_))) (Kd.R_lt (by (with_reducible repeat (first | apply Kd.R_alloc | apply Kd.R_drewN | apply Kd.R_drew));exact HO111.out))) (Kd.R_lt (by (with_reducible repeat (first | apply Kd.R_alloc | apply Kd.R_drewN | apply Kd.R_drew));exact HO118.out))) (below_size (q22_)));replace HO104:=rE_ HO104 ho0 hb;replace HO106:=rE_ HO106 ho0 hb;replace HO111:=rE_ HO111 ho0 hb;replace HO118:=rE_ HO118 ho0 hb;replace HB:=bS_ HB hb;(try clear hb);(try clear ho0)) | ((with_reducible refine gate_callee (f:=96) rfl ?_);refine goesL_ (some 86) rfl rfl Try.func96 (by kernel_rfl) rfl #[.slice Ao13 t101.length co13,.slice Ao14 t102.length co14] rfl (q24_) ?_;(with_reducible refine (spec_MergeFor.calls k _ _ t101 _ _ t102 t133 t134 _ ?side1 ?side2 ?side3 ?side4 A10.out).mono ?_);(case side1=>exact cX_ (Kd.R_reads' HO104.out).2.2);(case side2=>exact (Kd.R_reads' HO104.out).2.1);(case side3=>exact cX_ (Kd.R_reads' HO106.out).2.2);(case side4=>exact (Kd.R_reads' HO106.out).2.1);rintro e w20 ⟨v135,rfl,ho0,hb⟩;refine ⟨_,rfl,?_⟩;replace HO113:=Aside0.mk (Kd.S_below (q14_) hb);replace HO120:=Aside0.mk (Kd.S_below (by (with_reducible repeat (first | apply Kd.S_alloc | apply Kd.S_drewN | apply Kd.S_drew));exact HO120.out) hb);replace HO124:=Aside0.mk (Kd.S_below (by (with_reducible repeat (first | apply Kd.S_alloc | apply Kd.S_drewN | apply Kd.S_drew));exact HO124.out) hb);replace HO128:=Aside0.mk (Kd.S_below (by (with_reducible repeat (first | apply Kd.S_alloc | apply Kd.S_drewN | apply Kd.S_drew));exact HO128.out) hb);have HO136:=Aside0.mk (Kd.R_lower (Kd.R_new' (Kd.R_new' (Kd.R_new' (Kd.R_new' (Kd.R_new' ho0 (Kd.R_lt (q13_))) (Kd.R_lt (q12_))) (Kd.R_lt (by (with_reducible repeat (first | apply Kd.R_alloc | apply Kd.R_drewN | apply Kd.R_drew));exact HO111.out))) (Kd.R_lt (by (with_reducible repeat (first | apply Kd.R_alloc | apply Kd.R_drewN | apply Kd.R_drew));exact HO118.out))) (Kd.R_lt (by (with_reducible repeat (first | apply Kd.R_alloc | apply Kd.R_drewN | apply Kd.R_drew));exact HO132.out))) (below_size (q22_)));replace HO104:=rE_ HO104 ho0 hb;replace HO106:=rE_ HO106 ho0 hb;replace HO111:=rE_ HO111 ho0 hb;replace HO118:=rE_ HO118 ho0 hb;replace HO132:=rE_ HO132 ho0 hb;replace HB:=bS_ HB hb;(try clear hb);(try clear ho0)))
  (try simp only [Act.put,List.setIfInBounds_toArray,List.set_cons_zero,List.set_cons_succ])
  go_cut [132] (fun v132 wc=>∃ (kq : Nat) (x132_10 : Bool),v132 = .bool x132_10 ∧ Aside0 (laws_FnMerges.j0 kq t101 t102 t107 t109 t114 t115 t125 t129 t130 x132_10 = some r) ∧ Aside0 (kq ≤ k) ∧ Aside0 (Kd.R k58 58 wc w.heap.size (fun k_=>some k_ ≠ ((.slice Ao14 t102.length co14) : Value).ownBlock ∧ some k_ ≠ (v110 : Value).ownBlock ∧ some k_ ≠ (v117 : Value).ownBlock ∧ some k_ ≠ (v131 : Value).ownBlock) (.slice Ao13 t101.length co13) t101) ∧ Aside0 (Kd.R k58 58 wc w.heap.size (fun k_=>some k_ ≠ ((.slice Ao13 t101.length co13) : Value).ownBlock ∧ some k_ ≠ (v110 : Value).ownBlock ∧ some k_ ≠ (v117 : Value).ownBlock ∧ some k_ ≠ (v131 : Value).ownBlock) (.slice Ao14 t102.length co14) t102) ∧ Aside0 (Kd.R k58 58 wc w.heap.size (fun k_=>some k_ ≠ ((.slice Ao13 t101.length co13) : Value).ownBlock ∧ some k_ ≠ ((.slice Ao14 t102.length co14) : Value).ownBlock ∧ some k_ ≠ (v117 : Value).ownBlock ∧ some k_ ≠ (v131 : Value).ownBlock) v110 t107) ∧ Aside0 (Kd.R k58 58 wc w.heap.size (fun k_=>some k_ ≠ ((.slice Ao13 t101.length co13) : Value).ownBlock ∧ some k_ ≠ ((.slice Ao14 t102.length co14) : Value).ownBlock ∧ some k_ ≠ (v110 : Value).ownBlock ∧ some k_ ≠ (v131 : Value).ownBlock) v117 t114) ∧ Aside0 (Kd.S (Kd.slice 3 (Kd.int .i64)) 65 wc w.heap.size (fun k_=>some k_ ≠ (v127 : Value).ownBlock) v119 t115) ∧ Aside0 (Kd.S (Kd.slice 3 (Kd.int .i64)) 65 wc w.heap.size (fun k_=>some k_ ≠ (v119 : Value).ownBlock) v127 t125) ∧ Aside0 (Kd.R k58 58 wc w.heap.size (fun k_=>some k_ ≠ ((.slice Ao13 t101.length co13) : Value).ownBlock ∧ some k_ ≠ ((.slice Ao14 t102.length co14) : Value).ownBlock ∧ some k_ ≠ (v110 : Value).ownBlock ∧ some k_ ≠ (v117 : Value).ownBlock) v131 t129) ∧ Aside0 (Below w.heap.size w wc))
  case first=>as_aux_lemma =>
   have H:=HC11.out;clear HC11;by_cases c21 : (t109 != t116) = true
   ·rw [if_pos c21] at H;have c21b0 : (t109 != t116) = true:=c21
    (try (have c21b1 : decide (t109 = t116) = false:=by simpa using c21))
    (try (have c21b2 : (t109 == t116) = false:=by simpa using c21))
    (try (have c21b3 : ¬ (t109 = t116):=by simpa using c21))
    clear c21
    (first | rw [c21b0] | (simp only [i64_w,i32_w];rw [c21b0]) | skip)
    first | with_reducible exact (laws_FnMerges.j0_no H ht_.out).elim | with_reducible exact (laws_FnMerges.j1_no H ht_.out).elim
   ·rw [if_neg c21] at H;have c21b0 : (t109 != t116) = false:=by simpa using c21
    (try (have c21b1 : decide (t109 = t116) = true:=by simpa using c21))
    (try (have c21b2 : (t109 == t116) = true:=by simpa using c21))
    clear c21
    (first | rw [c21b0] | (simp only [i64_w,i32_w];rw [c21b0]) | skip)
    replace H:=Option.bind_eq_some_iff.mp H;obtain ⟨t137,A220,H⟩:=H;(try dsimp only at H);have A22:=Aside0.mk A220;clear A220;by_cases c23 : t137 = true
    ·subst c23;have H1 : ((laws_qLists.f k t108 t115).bind fun t138=>(if t138 = true then (if (t122 != t126) = true then (laws_FnMerges.j0 k t101 t102 t107 t109 t114 t115 t125 t129 t130 true) else ((laws_qLists.f k t121 t125).bind fun t139=>(if t139 = true then (if (t130 != t134) = true then (laws_FnMerges.j0 k t101 t102 t107 t109 t114 t115 t125 t129 t130 true) else ((laws_qNotes.f k t129 t133).bind fun t140=>(if t140 = true then (if t109 = true then (laws_FnMerges.j0 k t101 t102 t107 t109 t114 t115 t125 t129 t130 (!t122)) else (laws_FnMerges.j0 k t101 t102 t107 t109 t114 t115 t125 t129 t130 false)) else (laws_FnMerges.j0 k t101 t102 t107 t109 t114 t115 t125 t129 t130 true)))) else (laws_FnMerges.j0 k t101 t102 t107 t109 t114 t115 t125 t129 t130 true)))) else (laws_FnMerges.j0 k t101 t102 t107 t109 t114 t115 t125 t129 t130 true))) = some r:=by rw [if_pos rfl] at H;exact H
     clear H;have H:=H1;clear H1;replace H:=Option.bind_eq_some_iff.mp H;obtain ⟨t138,A240,H⟩:=H;(try dsimp only at H);have A24:=Aside0.mk A240;clear A240;by_cases c25 : t138 = true
     ·subst c25;have H1 : (if (t122 != t126) = true then (laws_FnMerges.j0 k t101 t102 t107 t109 t114 t115 t125 t129 t130 true) else ((laws_qLists.f k t121 t125).bind fun t139=>(if t139 = true then (if (t130 != t134) = true then (laws_FnMerges.j0 k t101 t102 t107 t109 t114 t115 t125 t129 t130 true) else ((laws_qNotes.f k t129 t133).bind fun t140=>(if t140 = true then (if t109 = true then (laws_FnMerges.j0 k t101 t102 t107 t109 t114 t115 t125 t129 t130 (!t122)) else (laws_FnMerges.j0 k t101 t102 t107 t109 t114 t115 t125 t129 t130 false)) else (laws_FnMerges.j0 k t101 t102 t107 t109 t114 t115 t125 t129 t130 true)))) else (laws_FnMerges.j0 k t101 t102 t107 t109 t114 t115 t125 t129 t130 true)))) = some r:=by rw [if_pos rfl] at H;exact H
      clear H;have H:=H1;clear H1;by_cases c26 : (t122 != t126) = true
      ·rw [if_pos c26] at H;have c26b0 : (t122 != t126) = true:=c26
       (try (have c26b1 : decide (t122 = t126) = false:=by simpa using c26))
       (try (have c26b2 : (t122 == t126) = false:=by simpa using c26))
       (try (have c26b3 : ¬ (t122 = t126):=by simpa using c26))
       clear c26;first | with_reducible exact (laws_FnMerges.j0_no H ht_.out).elim | with_reducible exact (laws_FnMerges.j1_no H ht_.out).elim
      ·rw [if_neg c26] at H;have c26b0 : (t122 != t126) = false:=by simpa using c26
       (try (have c26b1 : decide (t122 = t126) = true:=by simpa using c26))
       (try (have c26b2 : (t122 == t126) = true:=by simpa using c26))
       clear c26;replace H:=Option.bind_eq_some_iff.mp H;obtain ⟨t139,A310,H⟩:=H;(try dsimp only at H);have A31:=Aside0.mk A310;clear A310;by_cases c32 : t139 = true
       ·subst c32;have H1 : (if (t130 != t134) = true then (laws_FnMerges.j0 k t101 t102 t107 t109 t114 t115 t125 t129 t130 true) else ((laws_qNotes.f k t129 t133).bind fun t140=>(if t140 = true then (if t109 = true then (laws_FnMerges.j0 k t101 t102 t107 t109 t114 t115 t125 t129 t130 (!t122)) else (laws_FnMerges.j0 k t101 t102 t107 t109 t114 t115 t125 t129 t130 false)) else (laws_FnMerges.j0 k t101 t102 t107 t109 t114 t115 t125 t129 t130 true)))) = some r:=by rw [if_pos rfl] at H;exact H
        clear H;have H:=H1;clear H1;by_cases c33 : (t130 != t134) = true
        ·rw [if_pos c33] at H;have c33b0 : (t130 != t134) = true:=c33
         (try (have c33b1 : decide (t130 = t134) = false:=by simpa using c33))
         (try (have c33b2 : (t130 == t134) = false:=by simpa using c33))
         (try (have c33b3 : ¬ (t130 = t134):=by simpa using c33))
         clear c33;first | with_reducible exact (laws_FnMerges.j0_no H ht_.out).elim | with_reducible exact (laws_FnMerges.j1_no H ht_.out).elim
        ·rw [if_neg c33] at H;have c33b0 : (t130 != t134) = false:=by simpa using c33
         (try (have c33b1 : decide (t130 = t134) = true:=by simpa using c33))
         (try (have c33b2 : (t130 == t134) = true:=by simpa using c33))
         clear c33;replace H:=Option.bind_eq_some_iff.mp H;obtain ⟨t140,A400,H⟩:=H;(try dsimp only at H);have A40:=Aside0.mk A400;clear A400;by_cases c41 : t140 = true
         ·subst c41;have H1 : (if t109 = true then (laws_FnMerges.j0 k t101 t102 t107 t109 t114 t115 t125 t129 t130 (!t122)) else (laws_FnMerges.j0 k t101 t102 t107 t109 t114 t115 t125 t129 t130 false)) = some r:=by rw [if_pos rfl] at H;exact H
          clear H;have H:=H1;clear H1;by_cases c42 : t109 = true
          ·subst c42;have H1 : (laws_FnMerges.j0 k t101 t102 t107 true t114 t115 t125 t129 t130 (!t122)) = some r:=by rw [if_pos rfl] at H;exact H
           clear H;have H:=H1;clear H1;have H' := Aside0.mk H;clear H;obtain ⟨Ao43,co43,eo43⟩:=Kd.R_slice HO111.out;subst eo43;obtain ⟨Ao44,co44,eo44⟩:=Kd.R_slice HO118.out;subst eo44;go_wp2_with (first | (go_at_call 45;(with_reducible refine (laws_qNotes.calls k _ _ t107 _ _ t114 true _ ?side1 ?side2 ?side3 ?side4 A22.out).mono ?_);(case side1=>exact cX_ (Kd.R_reads' HO111.out).2.2);(case side2=>exact (Kd.R_reads' HO111.out).2.1);(case side3=>exact cX_ (Kd.R_reads' HO118.out).2.2);(case side4=>exact (Kd.R_reads' HO118.out).2.1);rintro e w' ⟨rfl,⟨nd,rfl⟩⟩;obtain ⟨Ao45,co45,eo45⟩:=Kd.S_slice HO113.out;subst eo45;obtain ⟨Ao46,co46,eo46⟩:=Kd.S_slice HO120.out;subst eo46) | (go_at_call 97;(with_reducible refine (laws_qLists.calls k _ _ t108 _ _ t115 true _ ?side1 ?side2 ?side3 ?side4 A24.out).mono ?_);(case side1=>exact cX_ (Kd.S_reads' HO113.out).2.2);(case side2=>exact (Kd.S_reads' HO113.out).2.1);(case side3=>exact cX_ (Kd.S_reads' HO120.out).2.2);(case side4=>exact (Kd.S_reads' HO120.out).2.1);rintro e w' ⟨rfl,⟨nd,rfl⟩⟩;obtain ⟨Ao47,co47,eo47⟩:=Kd.S_slice HO124.out;subst eo47;obtain ⟨Ao48,co48,eo48⟩:=Kd.S_slice HO128.out;subst eo48) | (go_at_call 97;(with_reducible refine (laws_qLists.calls k _ _ t121 _ _ t125 true _ ?side1 ?side2 ?side3 ?side4 A31.out).mono ?_);(case side1=>exact cX_ (Kd.S_reads' HO124.out).2.2);(case side2=>exact (Kd.S_reads' HO124.out).2.1);(case side3=>exact cX_ (Kd.S_reads' HO128.out).2.2);(case side4=>exact (Kd.S_reads' HO128.out).2.1);rintro e w' ⟨rfl,⟨nd,rfl⟩⟩;obtain ⟨Ao49,co49,eo49⟩:=Kd.R_slice HO132.out;subst eo49;obtain ⟨Ao50,co50,eo50⟩:=Kd.R_slice HO136.out;subst eo50) | (go_at_call 45;(with_reducible refine (laws_qNotes.calls k _ _ t129 _ _ t133 true _ ?side1 ?side2 ?side3 ?side4 A40.out).mono ?_);(case side1=>exact cX_ (Kd.R_reads' HO132.out).2.2);(case side2=>exact (Kd.R_reads' HO132.out).2.1);(case side3=>exact cX_ (Kd.R_reads' HO136.out).2.2);(case side4=>exact (Kd.R_reads' HO136.out).2.1);rintro e w' ⟨rfl,⟨nd,rfl⟩⟩))
           go_meet
           case rel=>exact ⟨_,(!t122),(q1_),H', ⟨by first | omega | exact Nat.le_refl _⟩,⟨by (with_reducible repeat (first | apply Kd.R_alloc | apply Kd.R_drewN | apply Kd.R_drew));exact Kd.R_mono HO104.out (fun _ hk=>⟨hk.1.1.1.1,⟨hk.1.1.1.2,⟨hk.1.1.2,hk.1.2⟩⟩⟩)⟩,⟨by (with_reducible repeat (first | apply Kd.R_alloc | apply Kd.R_drewN | apply Kd.R_drew));exact Kd.R_mono HO106.out (fun _ hk=>⟨hk.1.1.1.1,⟨hk.1.1.1.2,⟨hk.1.1.2,hk.1.2⟩⟩⟩)⟩,⟨by (with_reducible repeat (first | apply Kd.R_alloc | apply Kd.R_drewN | apply Kd.R_drew));exact Kd.R_mono HO111.out (fun _ hk=>⟨hk.1.1.1.1.2,⟨hk.1.1.1.2,⟨hk.1.1.2,hk.1.2⟩⟩⟩)⟩,⟨by (with_reducible repeat (first | apply Kd.R_alloc | apply Kd.R_drewN | apply Kd.R_drew));exact Kd.R_mono HO118.out (fun _ hk=>⟨hk.1.1.1.1.2,⟨hk.1.1.1.2,⟨hk.1.1.2,hk.1.2⟩⟩⟩)⟩,⟨by (with_reducible repeat (first | apply Kd.S_alloc | apply Kd.S_drewN | apply Kd.S_drew));exact Kd.S_mono HO120.out (fun _ hk=>hk.2)⟩,⟨by (with_reducible repeat (first | apply Kd.S_alloc | apply Kd.S_drewN | apply Kd.S_drew));exact Kd.S_mono HO128.out (fun _ hk=>hk.1.2)⟩,⟨by (with_reducible repeat (first | apply Kd.R_alloc | apply Kd.R_drewN | apply Kd.R_drew));exact Kd.R_mono HO132.out (fun _ hk=>⟨hk.1.1.1.1.2,⟨hk.1.1.1.2,⟨hk.1.1.2,hk.1.2⟩⟩⟩)⟩,⟨q22_⟩⟩
          ·replace c42:=Bool.eq_false_iff.mpr c42;subst c42;have H1 : (laws_FnMerges.j0 k t101 t102 t107 false t114 t115 t125 t129 t130 false) = some r:=by rw [if_neg (show ¬ (false = true) by decide)] at H;exact H
           clear H;have H:=H1;clear H1;have H' := Aside0.mk H;clear H;obtain ⟨Ao51,co51,eo51⟩:=Kd.R_slice HO111.out;subst eo51;obtain ⟨Ao52,co52,eo52⟩:=Kd.R_slice HO118.out;subst eo52;go_wp2_with (first | (go_at_call 45;(with_reducible refine (laws_qNotes.calls k _ _ t107 _ _ t114 true _ ?side1 ?side2 ?side3 ?side4 A22.out).mono ?_);(case side1=>exact cX_ (Kd.R_reads' HO111.out).2.2);(case side2=>exact (Kd.R_reads' HO111.out).2.1);(case side3=>exact cX_ (Kd.R_reads' HO118.out).2.2);(case side4=>exact (Kd.R_reads' HO118.out).2.1);rintro e w' ⟨rfl,⟨nd,rfl⟩⟩;obtain ⟨Ao53,co53,eo53⟩:=Kd.S_slice HO113.out;subst eo53;obtain ⟨Ao54,co54,eo54⟩:=Kd.S_slice HO120.out;subst eo54) | (go_at_call 97;(with_reducible refine (laws_qLists.calls k _ _ t108 _ _ t115 true _ ?side1 ?side2 ?side3 ?side4 A24.out).mono ?_);(case side1=>exact cX_ (Kd.S_reads' HO113.out).2.2);(case side2=>exact (Kd.S_reads' HO113.out).2.1);(case side3=>exact cX_ (Kd.S_reads' HO120.out).2.2);(case side4=>exact (Kd.S_reads' HO120.out).2.1);rintro e w' ⟨rfl,⟨nd,rfl⟩⟩;obtain ⟨Ao55,co55,eo55⟩:=Kd.S_slice HO124.out;subst eo55;obtain ⟨Ao56,co56,eo56⟩:=Kd.S_slice HO128.out;subst eo56) | (go_at_call 97;(with_reducible refine (laws_qLists.calls k _ _ t121 _ _ t125 true _ ?side1 ?side2 ?side3 ?side4 A31.out).mono ?_);(case side1=>exact cX_ (Kd.S_reads' HO124.out).2.2);(case side2=>exact (Kd.S_reads' HO124.out).2.1);(case side3=>exact cX_ (Kd.S_reads' HO128.out).2.2);(case side4=>exact (Kd.S_reads' HO128.out).2.1);rintro e w' ⟨rfl,⟨nd,rfl⟩⟩;obtain ⟨Ao57,co57,eo57⟩:=Kd.R_slice HO132.out;subst eo57;obtain ⟨Ao58,co58,eo58⟩:=Kd.R_slice HO136.out;subst eo58) | (go_at_call 45;(with_reducible refine (laws_qNotes.calls k _ _ t129 _ _ t133 true _ ?side1 ?side2 ?side3 ?side4 A40.out).mono ?_);(case side1=>exact cX_ (Kd.R_reads' HO132.out).2.2);(case side2=>exact (Kd.R_reads' HO132.out).2.1);(case side3=>exact cX_ (Kd.R_reads' HO136.out).2.2);(case side4=>exact (Kd.R_reads' HO136.out).2.1);rintro e w' ⟨rfl,⟨nd,rfl⟩⟩))
           go_meet
           case rel=>exact ⟨_,(false),(q1_),H', ⟨by first | omega | exact Nat.le_refl _⟩,⟨by (with_reducible repeat (first | apply Kd.R_alloc | apply Kd.R_drewN | apply Kd.R_drew));exact Kd.R_mono HO104.out (fun _ hk=>⟨hk.1.1.1.1,⟨hk.1.1.1.2,⟨hk.1.1.2,hk.1.2⟩⟩⟩)⟩,⟨by (with_reducible repeat (first | apply Kd.R_alloc | apply Kd.R_drewN | apply Kd.R_drew));exact Kd.R_mono HO106.out (fun _ hk=>⟨hk.1.1.1.1,⟨hk.1.1.1.2,⟨hk.1.1.2,hk.1.2⟩⟩⟩)⟩,⟨by (with_reducible repeat (first | apply Kd.R_alloc | apply Kd.R_drewN | apply Kd.R_drew));exact Kd.R_mono HO111.out (fun _ hk=>⟨hk.1.1.1.1.2,⟨hk.1.1.1.2,⟨hk.1.1.2,hk.1.2⟩⟩⟩)⟩,⟨by (with_reducible repeat (first | apply Kd.R_alloc | apply Kd.R_drewN | apply Kd.R_drew));exact Kd.R_mono HO118.out (fun _ hk=>⟨hk.1.1.1.1.2,⟨hk.1.1.1.2,⟨hk.1.1.2,hk.1.2⟩⟩⟩)⟩,⟨by (with_reducible repeat (first | apply Kd.S_alloc | apply Kd.S_drewN | apply Kd.S_drew));exact Kd.S_mono HO120.out (fun _ hk=>hk.2)⟩,⟨by (with_reducible repeat (first | apply Kd.S_alloc | apply Kd.S_drewN | apply Kd.S_drew));exact Kd.S_mono HO128.out (fun _ hk=>hk.1.2)⟩,⟨by (with_reducible repeat (first | apply Kd.R_alloc | apply Kd.R_drewN | apply Kd.R_drew));exact Kd.R_mono HO132.out (fun _ hk=>⟨hk.1.1.1.1.2,⟨hk.1.1.1.2,⟨hk.1.1.2,hk.1.2⟩⟩⟩)⟩,⟨q22_⟩⟩
         ·replace c41:=Bool.eq_false_iff.mpr c41;subst c41;have H1 : (laws_FnMerges.j0 k t101 t102 t107 t109 t114 t115 t125 t129 t130 true) = some r:=by rw [if_neg (show ¬ (false = true) by decide)] at H;exact H
          clear H;have H:=H1;clear H1;first | with_reducible exact (laws_FnMerges.j0_no H ht_.out).elim | with_reducible exact (laws_FnMerges.j1_no H ht_.out).elim
       ·replace c32:=Bool.eq_false_iff.mpr c32;subst c32;have H1 : (laws_FnMerges.j0 k t101 t102 t107 t109 t114 t115 t125 t129 t130 true) = some r:=by rw [if_neg (show ¬ (false = true) by decide)] at H;exact H
        clear H;have H:=H1;clear H1;first | with_reducible exact (laws_FnMerges.j0_no H ht_.out).elim | with_reducible exact (laws_FnMerges.j1_no H ht_.out).elim
     ·replace c25:=Bool.eq_false_iff.mpr c25;subst c25;have H1 : (laws_FnMerges.j0 k t101 t102 t107 t109 t114 t115 t125 t129 t130 true) = some r:=by rw [if_neg (show ¬ (false = true) by decide)] at H;exact H
      clear H;have H:=H1;clear H1;first | with_reducible exact (laws_FnMerges.j0_no H ht_.out).elim | with_reducible exact (laws_FnMerges.j1_no H ht_.out).elim
    ·replace c23:=Bool.eq_false_iff.mpr c23;subst c23;have H1 : (laws_FnMerges.j0 k t101 t102 t107 t109 t114 t115 t125 t129 t130 true) = some r:=by rw [if_neg (show ¬ (false = true) by decide)] at H;exact H
     clear H;have H:=H1;clear H1;first | with_reducible exact (laws_FnMerges.j0_no H ht_.out).elim | with_reducible exact (laws_FnMerges.j1_no H ht_.out).elim
  case rest=>as_aux_lemma =>
   clear HC11;try clear c1
   try clear c3
   try clear c3b0
   try clear c21
   try clear c21b0
   try clear c21b1
   try clear c21b2
   try clear c23
   try clear c25
   try clear c26
   try clear c26b0
   try clear c26b1
   try clear c26b2
   try clear c32
   try clear c33
   try clear c33b0
   try clear c33b1
   try clear c33b2
   try clear c41
   try clear c42
   obtain ⟨kq,x132_10,rfl,HA,HJ10,HO_5,HO_6,HO_7,HO_10,HO_11,HO_15,HO_17,HB⟩:=hcut;cases kq with
   | zero=>exact absurd HA.out (by simp [laws_FnMerges.j0])
   | succ kj10 =>
    have H:=HA.out;clear HA;simp only [laws_FnMerges.j0] at H;by_cases c79 : x132_10 = true
    ·subst c79;have H1 : (some false) = some r:=by rw [if_pos rfl] at H;exact H
     clear H;have H:=H1;clear H1;exact absurd (Option.some.inj H) (by rw [ht_.out];decide)
    ·replace c79:=Bool.eq_false_iff.mpr c79;subst c79;have H1 : (if t109 = true then ((laws_qLists.f kj10 t115 t125).bind fun t141=>(if t141 = true then ((impl_IsTier.f kj10 t107).bind fun t142=>(laws_FnMerges.j1 kj10 t101 t102 t107 t114 t125 t129 t130 (!t142))) else (laws_FnMerges.j1 kj10 t101 t102 t107 t114 t125 t129 t130 true))) else (laws_FnMerges.j6 kj10 t101 t129 t130)) = some r:=by rw [if_neg (show ¬ (false = true) by decide)] at H;exact H
     clear H;have H:=H1;clear H1;have HC80:=Aside0.mk H;clear H;go_upto_if 133 with (fail)
     go_cut [] (fun wc=>∃ (kq : Nat),Aside0 (laws_FnMerges.j6 kq t101 t129 t130 = some r) ∧ Aside0 (kq ≤ kj10) ∧ Aside0 (Kd.R k58 58 wc w.heap.size (fun k_=>some k_ ≠ (v131 : Value).ownBlock) (.slice Ao13 t101.length co13) t101) ∧ Aside0 (Kd.R k58 58 wc w.heap.size (fun k_=>some k_ ≠ ((.slice Ao13 t101.length co13) : Value).ownBlock) v131 t129) ∧ Aside0 (Below w.heap.size w wc))
     case first=>as_aux_lemma =>
      have H:=HC80.out;clear HC80;by_cases c81 : t109 = true
      ·subst c81;have H1 : ((laws_qLists.f kj10 t115 t125).bind fun t141=>(if t141 = true then ((impl_IsTier.f kj10 t107).bind fun t142=>(laws_FnMerges.j1 kj10 t101 t102 t107 t114 t125 t129 t130 (!t142))) else (laws_FnMerges.j1 kj10 t101 t102 t107 t114 t125 t129 t130 true))) = some r:=by rw [if_pos rfl] at H;exact H
       clear H;have H:=H1;clear H1;have HC82:=Aside0.mk H;clear H;go_upto_region 13 with (fail)
       go_cut [142] (fun v142 wc=>∃ (kq : Nat) (x142_81 : Bool),v142 = .bool x142_81 ∧ Aside0 (laws_FnMerges.j1 kq t101 t102 t107 t114 t125 t129 t130 x142_81 = some r) ∧ Aside0 (kq ≤ kj10) ∧ Aside0 (Kd.R k58 58 wc w.heap.size (fun k_=>some k_ ≠ ((.slice Ao14 t102.length co14) : Value).ownBlock ∧ some k_ ≠ (v110 : Value).ownBlock ∧ some k_ ≠ (v117 : Value).ownBlock ∧ some k_ ≠ (v131 : Value).ownBlock) (.slice Ao13 t101.length co13) t101) ∧ Aside0 (Kd.R k58 58 wc w.heap.size (fun k_=>some k_ ≠ ((.slice Ao13 t101.length co13) : Value).ownBlock ∧ some k_ ≠ (v110 : Value).ownBlock ∧ some k_ ≠ (v117 : Value).ownBlock ∧ some k_ ≠ (v131 : Value).ownBlock) (.slice Ao14 t102.length co14) t102) ∧ Aside0 (Kd.R k58 58 wc w.heap.size (fun k_=>some k_ ≠ ((.slice Ao13 t101.length co13) : Value).ownBlock ∧ some k_ ≠ ((.slice Ao14 t102.length co14) : Value).ownBlock ∧ some k_ ≠ (v117 : Value).ownBlock ∧ some k_ ≠ (v131 : Value).ownBlock) v110 t107) ∧ Aside0 (Kd.R k58 58 wc w.heap.size (fun k_=>some k_ ≠ ((.slice Ao13 t101.length co13) : Value).ownBlock ∧ some k_ ≠ ((.slice Ao14 t102.length co14) : Value).ownBlock ∧ some k_ ≠ (v110 : Value).ownBlock ∧ some k_ ≠ (v131 : Value).ownBlock) v117 t114) ∧ Aside0 (Kd.S (Kd.slice 3 (Kd.int .i64)) 65 wc w.heap.size (fun _=>True) v127 t125) ∧ Aside0 (Kd.R k58 58 wc w.heap.size (fun k_=>some k_ ≠ ((.slice Ao13 t101.length co13) : Value).ownBlock ∧ some k_ ≠ ((.slice Ao14 t102.length co14) : Value).ownBlock ∧ some k_ ≠ (v110 : Value).ownBlock ∧ some k_ ≠ (v117 : Value).ownBlock) v131 t129) ∧ Aside0 (Below w.heap.size w wc))
       case first=>as_aux_lemma =>
        have H:=HC82.out;clear HC82;replace H:=Option.bind_eq_some_iff.mp H;obtain ⟨t141,A830,H⟩:=H;(try dsimp only at H);have A83:=Aside0.mk A830;clear A830;by_cases c84 : t141 = true
        ·subst c84;have H1 : ((impl_IsTier.f kj10 t107).bind fun t142=>(laws_FnMerges.j1 kj10 t101 t102 t107 t114 t125 t129 t130 (!t142))) = some r:=by rw [if_pos rfl] at H;exact H
         clear H;have H:=H1;clear H1;replace H:=Option.bind_eq_some_iff.mp H;obtain ⟨t142,A850,H⟩:=H;(try dsimp only at H);have A85:=Aside0.mk A850;clear A850;have H' := Aside0.mk H;clear H;obtain ⟨Ao86,co86,eo86⟩:=Kd.S_slice HO_11.out;subst eo86;obtain ⟨Ao87,co87,eo87⟩:=Kd.S_slice HO_15.out;subst eo87;go_wp2_with (first | ((with_reducible refine gate_callee (f:=97) rfl ?_);refine goesL_ (some 136) rfl rfl Try.func97 (by kernel_rfl) rfl #[.slice Ao86 t115.length co86,.slice Ao87 t125.length co87] rfl (q24_) ?_;(with_reducible refine (laws_qLists.calls kj10 _ _ t115 _ _ t125 true _ ?side1 ?side2 ?side3 ?side4 A83.out).mono ?_);(case side1=>exact cX_ (Kd.S_reads' HO_11.out).2.2);(case side2=>exact (Kd.S_reads' HO_11.out).2.1);(case side3=>exact cX_ (Kd.S_reads' HO_15.out).2.2);(case side4=>exact (Kd.S_reads' HO_15.out).2.1);rintro e w' ⟨rfl,⟨nd,rfl⟩⟩;refine ⟨_,rfl,?_⟩;obtain ⟨Ao88,co88,eo88⟩:=Kd.R_slice HO_7.out;subst eo88) | (go_at_call 46;(with_reducible refine (impl_IsTier.calls kj10 _ _ t107 t142 _ ?side1 ?side2 A85.out).mono ?_);(case side1=>exact cX_ (Kd.R_reads' HO_7.out).2.2);(case side2=>exact (Kd.R_reads' HO_7.out).2.1);rintro e w89 ⟨rfl,hb⟩;replace HO_5:=rB_ HO_5 hb;replace HO_6:=rB_ HO_6 hb;replace HO_7:=rB_ HO_7 hb;replace HO_10:=rB_ HO_10 hb;replace HO_11:=Aside0.mk (Kd.S_below (by (with_reducible repeat (first | apply Kd.S_alloc | apply Kd.S_drewN | apply Kd.S_drew));exact HO_11.out) hb);replace HO_15:=Aside0.mk (Kd.S_below (q15_) hb);replace HO_17:=rB_ HO_17 hb;replace HB:=bS_ HB hb;(try clear hb)))
         go_meet
         case rel=>exact ⟨_,(!t142),(q1_),H', ⟨by have:=HJ10.out;first | omega | exact Nat.le_refl _⟩,⟨q7_⟩,⟨q9_⟩,⟨q10_⟩,⟨q16_⟩,⟨by (with_reducible repeat (first | apply Kd.S_alloc | apply Kd.S_drewN | apply Kd.S_drew));exact Kd.S_mono HO_15.out (fun _ hk=>trivial)⟩,⟨q17_⟩,⟨q22_⟩⟩
        ·replace c84:=Bool.eq_false_iff.mpr c84;subst c84;have H1 : (laws_FnMerges.j1 kj10 t101 t102 t107 t114 t125 t129 t130 true) = some r:=by rw [if_neg (show ¬ (false = true) by decide)] at H;exact H
         clear H;have H:=H1;clear H1;first | with_reducible exact (laws_FnMerges.j0_no H ht_.out).elim | with_reducible exact (laws_FnMerges.j1_no H ht_.out).elim
       case rest=>as_aux_lemma =>
        clear HC82;try clear c1
        try clear c3
        try clear c3b0
        try clear c21
        try clear c21b0
        try clear c21b1
        try clear c21b2
        try clear c23
        try clear c25
        try clear c26
        try clear c26b0
        try clear c26b1
        try clear c26b2
        try clear c32
        try clear c33
        try clear c33b0
        try clear c33b1
        try clear c33b2
        try clear c41
        try clear c42
        try clear c79
        try clear c81
        try clear c84
        obtain ⟨kq,x142_81,rfl,HA,HJ81,HO_5,HO_6,HO_7,HO_10,HO_15,HO_17,HB⟩:=hcut;cases kq with
        | zero=>exact absurd HA.out (by simp [laws_FnMerges.j1])
        | succ kj81 =>
         have H:=HA.out;clear HA;simp only [laws_FnMerges.j1] at H;by_cases c92 : x142_81 = true
         ·subst c92;have H1 : (some false) = some r:=by rw [if_pos rfl] at H;exact H
          clear H;have H:=H1;clear H1;exact absurd (Option.some.inj H) (by rw [ht_.out];decide)
         ·replace c92:=Bool.eq_false_iff.mpr c92;subst c92;have H1 : (laws_FnMerges.l0 kj81 t101 t102 t107 t114 t125 t129 t130 t101 (t101.length : Int) 0) = some r:=by rw [if_neg (show ¬ (false = true) by decide)] at H;exact H
          clear H;have H:=H1;clear H1;have H' := Aside0.mk H;clear H;go_wp2;go_loopg [145] kj81 (fun kq v145 w' => ∃ (x145_3 : Int),v145 = .int .i64 x145_3 ∧ Aside0 (laws_FnMerges.l0 kq t101 t102 t107 t114 t125 t129 t130 t101 (t101.length : Int) x145_3 = some r) ∧ Aside0 (kq ≤ kj81) ∧ Aside0 (Kd.R k58 58 w' w.heap.size (fun k_=>some k_ ≠ ((.slice Ao14 t102.length co14) : Value).ownBlock ∧ some k_ ≠ (v110 : Value).ownBlock ∧ some k_ ≠ (v117 : Value).ownBlock ∧ some k_ ≠ (v131 : Value).ownBlock) (.slice Ao13 t101.length co13) t101) ∧ Aside0 (Kd.R k58 58 w' w.heap.size (fun k_=>some k_ ≠ ((.slice Ao13 t101.length co13) : Value).ownBlock ∧ some k_ ≠ (v110 : Value).ownBlock ∧ some k_ ≠ (v117 : Value).ownBlock ∧ some k_ ≠ (v131 : Value).ownBlock ∧ some k_ ≠ ((.slice Ao13 t101.length co13) : Value).ownBlock) (.slice Ao14 t102.length co14) t102) ∧ Aside0 (Kd.R k58 58 w' w.heap.size (fun k_=>some k_ ≠ ((.slice Ao13 t101.length co13) : Value).ownBlock ∧ some k_ ≠ ((.slice Ao14 t102.length co14) : Value).ownBlock ∧ some k_ ≠ (v117 : Value).ownBlock ∧ some k_ ≠ (v131 : Value).ownBlock ∧ some k_ ≠ ((.slice Ao13 t101.length co13) : Value).ownBlock) v110 t107) ∧ Aside0 (Kd.R k58 58 w' w.heap.size (fun k_=>some k_ ≠ ((.slice Ao13 t101.length co13) : Value).ownBlock ∧ some k_ ≠ ((.slice Ao14 t102.length co14) : Value).ownBlock ∧ some k_ ≠ (v110 : Value).ownBlock ∧ some k_ ≠ (v131 : Value).ownBlock ∧ some k_ ≠ ((.slice Ao13 t101.length co13) : Value).ownBlock) v117 t114) ∧ Aside0 (Kd.S (Kd.slice 3 (Kd.int .i64)) 65 w' w.heap.size (fun _=>True) v127 t125) ∧ Aside0 (Kd.R k58 58 w' w.heap.size (fun k_=>some k_ ≠ ((.slice Ao13 t101.length co13) : Value).ownBlock ∧ some k_ ≠ ((.slice Ao14 t102.length co14) : Value).ownBlock ∧ some k_ ≠ (v110 : Value).ownBlock ∧ some k_ ≠ (v117 : Value).ownBlock ∧ some k_ ≠ ((.slice Ao13 t101.length co13) : Value).ownBlock) v131 t129) ∧ Aside0 (Kd.R k58 58 w' w.heap.size (fun k_=>some k_ ≠ ((.slice Ao14 t102.length co14) : Value).ownBlock ∧ some k_ ≠ (v110 : Value).ownBlock ∧ some k_ ≠ (v117 : Value).ownBlock ∧ some k_ ≠ (v131 : Value).ownBlock) (.slice Ao13 t101.length co13) t101) ∧ Aside0 (Below w.heap.size w w'))
          case atStart=>exact ⟨(0),(q1_),H', ⟨Nat.le_refl _⟩,⟨q7_⟩,⟨by (with_reducible repeat (first | apply Kd.R_alloc | apply Kd.R_drewN | apply Kd.R_drew));exact Kd.R_mono HO_6.out (fun _ hk=>⟨hk.1,⟨hk.2.1,⟨hk.2.2.1,⟨hk.2.2.2,hk.1⟩⟩⟩⟩)⟩,⟨by (with_reducible repeat (first | apply Kd.R_alloc | apply Kd.R_drewN | apply Kd.R_drew));exact Kd.R_mono HO_7.out (fun _ hk=>⟨hk.1,⟨hk.2.1,⟨hk.2.2.1,⟨hk.2.2.2,hk.1⟩⟩⟩⟩)⟩,⟨by (with_reducible repeat (first | apply Kd.R_alloc | apply Kd.R_drewN | apply Kd.R_drew));exact Kd.R_mono HO_10.out (fun _ hk=>⟨hk.1,⟨hk.2.1,⟨hk.2.2.1,⟨hk.2.2.2,hk.1⟩⟩⟩⟩)⟩,⟨q15_⟩,⟨by (with_reducible repeat (first | apply Kd.R_alloc | apply Kd.R_drewN | apply Kd.R_drew));exact Kd.R_mono HO_17.out (fun _ hk=>⟨hk.1,⟨hk.2.1,⟨hk.2.2.1,⟨hk.2.2.2,hk.1⟩⟩⟩⟩)⟩,⟨q7_⟩,⟨q22_⟩⟩
          case round =>
           clear H';try clear c1
           try clear c3
           try clear c3b0
           try clear c21
           try clear c21b0
           try clear c21b1
           try clear c21b2
           try clear c23
           try clear c25
           try clear c26
           try clear c26b0
           try clear c26b1
           try clear c26b2
           try clear c32
           try clear c33
           try clear c33b0
           try clear c33b1
           try clear c33b2
           try clear c41
           try clear c42
           try clear c79
           try clear c81
           try clear c84
           try clear c92
           obtain ⟨x145_3,rfl,HA,HK3,HO_5,HO_6,HO_7,HO_10,HO_15,HO_17,HO_143,HB⟩:=hrel;cases gk with
           | zero=>exact absurd HA.out (by simp [laws_FnMerges.l0])
           | succ k3 =>
            have H:=HA.out;clear HA;simp only [laws_FnMerges.l0] at H;by_cases c93 : x145_3 < (t101.length : Int)
            ·rw [if_pos c93] at H;have c93b0 : decide (x145_3 < (t101.length : Int)) = true:=decide_eq_true c93;clear c93;by_cases c94 : 0 ≤ x145_3
             ·rw [if_pos c94] at H;have c94b0 : decide (0 ≤ x145_3) = true:=decide_eq_true c94;clear c94;by_cases c95 : x145_3 < (t101.length : Int)
              ·rw [if_pos c95] at H;have c95b0 : decide (x145_3 < (t101.length : Int)) = true:=decide_eq_true c95;clear c95;have H' := Aside0.mk H;clear H;have p143 : 0 ≤ (x145_3 : Int):=of_decide_eq_true (q2_);have q143 : x145_3 < (t101.length : Int):=of_decide_eq_true (q2_);obtain ⟨ad143,e143,hx143_0,hx143_1,hx143_2⟩:=at_T58 (Kd.R_reads' HO_143.out).2.2 x145_3 p143 q143;cases e143;replace p143:=eq_true p143;replace q143:=eq_true q143;go_wp2_with (first | ((with_reducible refine gate_dst (N:=22) rfl ?_);(try (refine gate_guard (by rfl) ?_;dsimp only));refine box_event ?hg (N:=22) ?hd (cs:=#[.int .i64 0,.int .i64 0,.string (⟨#[]⟩ : ByteArray)]) (t:=58) ?hr ?_;(case hd=>rfl);(case hg=>rfl);(case hr=>first | (go_simp;done) | (go_simp;rfl));intro gb144 hg w96 hbox hb;replace HO_5:=Aside0.mk (Kd.R_below (Kd.R_elderB (q7_) gb144 (Nat.le_of_eq hg.symm)) hb);replace HO_6:=Aside0.mk (Kd.R_below (Kd.R_elderB (q9_) gb144 (Nat.le_of_eq hg.symm)) hb);replace HO_7:=Aside0.mk (Kd.R_below (Kd.R_elderB (q10_) gb144 (Nat.le_of_eq hg.symm)) hb);replace HO_10:=Aside0.mk (Kd.R_below (Kd.R_elderB (q16_) gb144 (Nat.le_of_eq hg.symm)) hb);replace HO_15:=Aside0.mk (Kd.S_below (q15_) hb);replace HO_17:=Aside0.mk (Kd.R_below (Kd.R_elderB (q17_) gb144 (Nat.le_of_eq hg.symm)) hb);replace HO_143:=Aside0.mk (Kd.R_below (Kd.R_elderB (by (with_reducible repeat (first | apply Kd.R_alloc | apply Kd.R_drewN | apply Kd.R_drew));exact HO_143.out) gb144 (Nat.le_of_eq hg.symm)) hb);have BK144:=Aside0.mk (hbox);have GW144:=Aside0.mk ((q59_ : w.heap.size ≤ gb144));have GE144:=Aside0.mk ((q59_ : w.heap.size ≤ gb144));replace HB:=bS_ HB hb;clear hb hbox hg;obtain ⟨hcz97_0,hcz97_1,hcz97_2,hfz97_0,hfz97_1,hfz97_2⟩:=bx3_ BK144.out;obtain ⟨Ao98,co98,eo98⟩:=Kd.S_slice HO_15.out;subst eo98))
               go_loopg [23,152] k3 (fun kq v23 v152 w' => ∃ (x23_4 : Bool) (x152_4 : Int),v23 = .bool x23_4 ∧ v152 = .int .i64 x152_4 ∧ Aside0 (laws_FnMerges.l1 kq t101 t102 t107 t114 t125 t129 t130 x145_3 x23_4 t101 (t101.length : Int) x145_3 t125 (t125.length : Int) x152_4 ((rd_T58 t101 x145_3).f0) ((rd_T58 t101 x145_3).f1) ((rd_T58 t101 x145_3).f2) = some r) ∧ Aside0 (kq ≤ k3) ∧ Aside0 (Kd.R k58 58 w' w.heap.size (fun k_=>some k_ ≠ ((.slice Ao14 t102.length co14) : Value).ownBlock ∧ some k_ ≠ (v110 : Value).ownBlock ∧ some k_ ≠ (v117 : Value).ownBlock ∧ some k_ ≠ (v131 : Value).ownBlock ∧ k_ ≠ gb144) (.slice (some ad143) t101.length co13) t101) ∧ Aside0 (Kd.R k58 58 w' w.heap.size (fun k_=>some k_ ≠ ((.slice (some ad143) t101.length co13) : Value).ownBlock ∧ some k_ ≠ (v110 : Value).ownBlock ∧ some k_ ≠ (v117 : Value).ownBlock ∧ some k_ ≠ (v131 : Value).ownBlock ∧ some k_ ≠ ((.slice (some ad143) t101.length co13) : Value).ownBlock ∧ k_ ≠ gb144) (.slice Ao14 t102.length co14) t102) ∧ Aside0 (Kd.R k58 58 w' w.heap.size (fun k_=>some k_ ≠ ((.slice (some ad143) t101.length co13) : Value).ownBlock ∧ some k_ ≠ ((.slice Ao14 t102.length co14) : Value).ownBlock ∧ some k_ ≠ (v117 : Value).ownBlock ∧ some k_ ≠ (v131 : Value).ownBlock ∧ some k_ ≠ ((.slice (some ad143) t101.length co13) : Value).ownBlock ∧ k_ ≠ gb144) v110 t107) ∧ Aside0 (Kd.R k58 58 w' w.heap.size (fun k_=>some k_ ≠ ((.slice (some ad143) t101.length co13) : Value).ownBlock ∧ some k_ ≠ ((.slice Ao14 t102.length co14) : Value).ownBlock ∧ some k_ ≠ (v110 : Value).ownBlock ∧ some k_ ≠ (v131 : Value).ownBlock ∧ some k_ ≠ ((.slice (some ad143) t101.length co13) : Value).ownBlock ∧ k_ ≠ gb144) v117 t114) ∧ Aside0 (Kd.S (Kd.slice 3 (Kd.int .i64)) 65 w' w.heap.size (fun _=>True) (.slice Ao98 t125.length co98) t125) ∧ Aside0 (Kd.R k58 58 w' w.heap.size (fun k_=>some k_ ≠ ((.slice (some ad143) t101.length co13) : Value).ownBlock ∧ some k_ ≠ ((.slice Ao14 t102.length co14) : Value).ownBlock ∧ some k_ ≠ (v110 : Value).ownBlock ∧ some k_ ≠ (v117 : Value).ownBlock ∧ some k_ ≠ ((.slice (some ad143) t101.length co13) : Value).ownBlock ∧ k_ ≠ gb144) v131 t129) ∧ Aside0 (Kd.R k58 58 w' w.heap.size (fun k_=>some k_ ≠ ((.slice Ao14 t102.length co14) : Value).ownBlock ∧ some k_ ≠ (v110 : Value).ownBlock ∧ some k_ ≠ (v117 : Value).ownBlock ∧ some k_ ≠ (v131 : Value).ownBlock ∧ k_ ≠ gb144) (.slice (some ad143) t101.length co13) t101) ∧ Aside0 (Kd.S (Kd.slice 3 (Kd.int .i64)) 65 w' w.heap.size (fun _=>True) (.slice Ao98 t125.length co98) t125) ∧ Aside0 (w'.heap[gb144]? = some (.cells #[.int .i64 ((rd_T58 t101 x145_3).f0),.int .i64 ((rd_T58 t101 x145_3).f1),.string ((rd_T58 t101 x145_3).f2)] 58 (0,0))) ∧ Aside0 (Below w.heap.size w w'))
               case atStart=>exact ⟨(false),(0),(q1_),(q1_),H', ⟨Nat.le_refl _⟩,⟨by (with_reducible repeat (first | apply Kd.R_alloc | apply Kd.R_drewN | apply Kd.R_drew));exact Kd.R_mono (Kd.R_far (p:=⟨gb144,2,none⟩) (Kd.R_far (p:=⟨gb144,1,none⟩) (Kd.R_far (p:=⟨gb144,0,none⟩) (Kd.R_mono HO_5.out (fun k_ hk=>(⟨hk,hk.2⟩ : _ ∧ k_ ≠ gb144))) (fun _ hk=>hk.2) (.int .i64 ((rd_T58 t101 x145_3).f0))) (fun _ hk=>hk.2) (.int .i64 ((rd_T58 t101 x145_3).f1))) (fun _ hk=>hk.2) (.string ((rd_T58 t101 x145_3).f2))) (fun _ hk=>⟨hk.1.1.1,⟨hk.1.1.2.1,⟨hk.1.1.2.2.1,⟨hk.1.1.2.2.2,hk.1.2⟩⟩⟩⟩)⟩,⟨by (with_reducible repeat (first | apply Kd.R_alloc | apply Kd.R_drewN | apply Kd.R_drew));exact Kd.R_mono (Kd.R_far (p:=⟨gb144,2,none⟩) (Kd.R_far (p:=⟨gb144,1,none⟩) (Kd.R_far (p:=⟨gb144,0,none⟩) (Kd.R_mono HO_6.out (fun k_ hk=>(⟨hk,hk.2⟩ : _ ∧ k_ ≠ gb144))) (fun _ hk=>hk.2) (.int .i64 ((rd_T58 t101 x145_3).f0))) (fun _ hk=>hk.2) (.int .i64 ((rd_T58 t101 x145_3).f1))) (fun _ hk=>hk.2) (.string ((rd_T58 t101 x145_3).f2))) (fun _ hk=>⟨hk.1.1.1,⟨hk.1.1.2.1,⟨hk.1.1.2.2.1,⟨hk.1.1.2.2.2.1,⟨hk.1.1.2.2.2.2,hk.1.2⟩⟩⟩⟩⟩)⟩,⟨by (with_reducible repeat (first | apply Kd.R_alloc | apply Kd.R_drewN | apply Kd.R_drew));exact Kd.R_mono (Kd.R_far (p:=⟨gb144,2,none⟩) (Kd.R_far (p:=⟨gb144,1,none⟩) (Kd.R_far (p:=⟨gb144,0,none⟩) (Kd.R_mono HO_7.out (fun k_ hk=>(⟨hk,hk.2⟩ : _ ∧ k_ ≠ gb144))) (fun _ hk=>hk.2) (.int .i64 ((rd_T58 t101 x145_3).f0))) (fun _ hk=>hk.2) (.int .i64 ((rd_T58 t101 x145_3).f1))) (fun _ hk=>hk.2) (.string ((rd_T58 t101 x145_3).f2))) (fun _ hk=>⟨hk.1.1.1,⟨hk.1.1.2.1,⟨hk.1.1.2.2.1,⟨hk.1.1.2.2.2.1,⟨hk.1.1.2.2.2.2,hk.1.2⟩⟩⟩⟩⟩)⟩,⟨by (with_reducible repeat (first | apply Kd.R_alloc | apply Kd.R_drewN | apply Kd.R_drew));exact Kd.R_mono (Kd.R_far (p:=⟨gb144,2,none⟩) (Kd.R_far (p:=⟨gb144,1,none⟩) (Kd.R_far (p:=⟨gb144,0,none⟩) (Kd.R_mono HO_10.out (fun k_ hk=>(⟨hk,hk.2⟩ : _ ∧ k_ ≠ gb144))) (fun _ hk=>hk.2) (.int .i64 ((rd_T58 t101 x145_3).f0))) (fun _ hk=>hk.2) (.int .i64 ((rd_T58 t101 x145_3).f1))) (fun _ hk=>hk.2) (.string ((rd_T58 t101 x145_3).f2))) (fun _ hk=>⟨hk.1.1.1,⟨hk.1.1.2.1,⟨hk.1.1.2.2.1,⟨hk.1.1.2.2.2.1,⟨hk.1.1.2.2.2.2,hk.1.2⟩⟩⟩⟩⟩)⟩,⟨by (with_reducible repeat (first | apply Kd.S_alloc | apply Kd.S_drewN | apply Kd.S_drew));exact Kd.S_mono (Kd.S_far (p:=⟨gb144,2,none⟩) (Kd.S_far (p:=⟨gb144,1,none⟩) (Kd.S_far (p:=⟨gb144,0,none⟩) (Kd.S_types HO_15.out BK144.out (by decide)) (fun _ hk=>hk.2) (.int .i64 ((rd_T58 t101 x145_3).f0))) (fun _ hk=>hk.2) (.int .i64 ((rd_T58 t101 x145_3).f1))) (fun _ hk=>hk.2) (.string ((rd_T58 t101 x145_3).f2))) (fun _ hk=>trivial)⟩,⟨by (with_reducible repeat (first | apply Kd.R_alloc | apply Kd.R_drewN | apply Kd.R_drew));exact Kd.R_mono (Kd.R_far (p:=⟨gb144,2,none⟩) (Kd.R_far (p:=⟨gb144,1,none⟩) (Kd.R_far (p:=⟨gb144,0,none⟩) (Kd.R_mono HO_17.out (fun k_ hk=>(⟨hk,hk.2⟩ : _ ∧ k_ ≠ gb144))) (fun _ hk=>hk.2) (.int .i64 ((rd_T58 t101 x145_3).f0))) (fun _ hk=>hk.2) (.int .i64 ((rd_T58 t101 x145_3).f1))) (fun _ hk=>hk.2) (.string ((rd_T58 t101 x145_3).f2))) (fun _ hk=>⟨hk.1.1.1,⟨hk.1.1.2.1,⟨hk.1.1.2.2.1,⟨hk.1.1.2.2.2.1,⟨hk.1.1.2.2.2.2,hk.1.2⟩⟩⟩⟩⟩)⟩,⟨by (with_reducible repeat (first | apply Kd.R_alloc | apply Kd.R_drewN | apply Kd.R_drew));exact Kd.R_mono (Kd.R_far (p:=⟨gb144,2,none⟩) (Kd.R_far (p:=⟨gb144,1,none⟩) (Kd.R_far (p:=⟨gb144,0,none⟩) (Kd.R_mono HO_143.out (fun k_ hk=>(⟨hk,hk.2⟩ : _ ∧ k_ ≠ gb144))) (fun _ hk=>hk.2) (.int .i64 ((rd_T58 t101 x145_3).f0))) (fun _ hk=>hk.2) (.int .i64 ((rd_T58 t101 x145_3).f1))) (fun _ hk=>hk.2) (.string ((rd_T58 t101 x145_3).f2))) (fun _ hk=>⟨hk.1.1.1,⟨hk.1.1.2.1,⟨hk.1.1.2.2.1,⟨hk.1.1.2.2.2,hk.1.2⟩⟩⟩⟩)⟩,⟨by (with_reducible repeat (first | apply Kd.S_alloc | apply Kd.S_drewN | apply Kd.S_drew));exact Kd.S_mono (Kd.S_far (p:=⟨gb144,2,none⟩) (Kd.S_far (p:=⟨gb144,1,none⟩) (Kd.S_far (p:=⟨gb144,0,none⟩) (Kd.S_types HO_15.out BK144.out (by decide)) (fun _ hk=>hk.2) (.int .i64 ((rd_T58 t101 x145_3).f0))) (fun _ hk=>hk.2) (.int .i64 ((rd_T58 t101 x145_3).f1))) (fun _ hk=>hk.2) (.string ((rd_T58 t101 x145_3).f2))) (fun _ hk=>trivial)⟩,⟨by (with_reducible repeat (first | refine blk_drewN ?_ _ | refine blk_drew ?_ | refine blk_alloc ?_ _));refine blk_put (cs:=#[.int .i64 ((rd_T58 t101 x145_3).f0),.int .i64 ((rd_T58 t101 x145_3).f1),.string (⟨#[]⟩ : ByteArray)]) ?_ 2 _ rfl;(with_reducible repeat (first | refine blk_drewN ?_ _ | refine blk_drew ?_ | refine blk_alloc ?_ _));refine blk_put (cs:=#[.int .i64 ((rd_T58 t101 x145_3).f0),.int .i64 0,.string (⟨#[]⟩ : ByteArray)]) ?_ 1 _ rfl;(with_reducible repeat (first | refine blk_drewN ?_ _ | refine blk_drew ?_ | refine blk_alloc ?_ _));refine blk_put (cs:=#[.int .i64 0,.int .i64 0,.string (⟨#[]⟩ : ByteArray)]) ?_ 0 _ rfl;(with_reducible repeat (first | refine blk_drewN ?_ _ | refine blk_drew ?_ | refine blk_alloc ?_ _));exact BK144.out⟩,⟨q31_⟩⟩
               case round =>
                clear H';try clear c1
                try clear c3
                try clear c3b0
                try clear c21
                try clear c21b0
                try clear c21b1
                try clear c21b2
                try clear c23
                try clear c25
                try clear c26
                try clear c26b0
                try clear c26b1
                try clear c26b2
                try clear c32
                try clear c33
                try clear c33b0
                try clear c33b1
                try clear c33b2
                try clear c41
                try clear c42
                try clear c79
                try clear c81
                try clear c84
                try clear c92
                try clear c93
                try clear c93b0
                try clear c94
                try clear c94b0
                try clear c95
                try clear c95b0
                try clear hcz97_0
                try clear hcz97_1
                try clear hcz97_2
                try clear hfz97_0
                try clear hfz97_1
                try clear hfz97_2
                try clear hx143_0
                try clear hx143_1
                try clear hx143_2
                try clear p143
                try clear q143
                obtain ⟨x23_4,x152_4,rfl,rfl,HA,HK4,HO_5,HO_6,HO_7,HO_10,HO_15,HO_17,HO_143,HO_150,BK144,HB⟩:=hrel;cases gk with
                | zero=>exact absurd HA.out (by simp [laws_FnMerges.l1])
                | succ k4 =>
                 have H:=HA.out;clear HA;simp only [laws_FnMerges.l1] at H;by_cases c99 : x152_4 < (t125.length : Int)
                 ·rw [if_pos c99] at H;have c99b0 : decide (x152_4 < (t125.length : Int)) = true:=decide_eq_true c99;clear c99;by_cases c100 : 0 ≤ x152_4
                  ·rw [if_pos c100] at H;have c100b0 : decide (0 ≤ x152_4) = true:=decide_eq_true c100;clear c100;by_cases c101 : x152_4 < (t125.length : Int)
                   ·rw [if_pos c101] at H;have c101b0 : decide (x152_4 < (t125.length : Int)) = true:=decide_eq_true c101;clear c101;by_cases c102 : x23_4 = true
                    ·subst c102;have H1 : (laws_FnMerges.l1 k4 t101 t102 t107 t114 t125 t129 t130 x145_3 true t101 (t101.length : Int) x145_3 t125 (t125.length : Int) (wrap64 (x152_4 + 1)) ((rd_T58 t101 x145_3).f0) ((rd_T58 t101 x145_3).f1) ((rd_T58 t101 x145_3).f2)) = some r:=by rw [if_pos rfl] at H;exact H
                     clear H;have H:=H1;clear H1;have H' := Aside0.mk H;clear H;have p145 : 0 ≤ (x152_4 : Int):=of_decide_eq_true (q2_);have q145 : x152_4 < (t125.length : Int):=of_decide_eq_true (q2_);obtain ⟨ad145,A145_0,c145_0,e145,hx145_0,hl145_0,hi145_0⟩:=at_L15 (Kd.S_reads' HO_150.out).2.2 x152_4 p145 q145;cases e145;obtain ⟨ce145,hce145,hMe145,hcc145⟩:=Kd.S_get HO_150.out [] x152_4 p145 (by first | exact q145 | exact of_decide_eq_true (q2_) | (have e_:=(Kd.S_reads' HO_150.out).1;omega));obtain ⟨ve145_0,rfl,ge145_0⟩:=hMe145;have hv145_0:=hcc145 0 _ rfl;rw [Nat.add_zero,show ((Kd.slice 3 (Kd.int .i64))).sz = 1 from rfl,Nat.mul_one] at hv145_0;replace hv145_0:=Option.some.inj (hv145_0.symm.trans hx145_0);rw [hv145_0] at ge145_0;have HL145_0:=Aside0.mk (show Kd.R (Kd.int .i64) 3 _ _ _ _ (rd_L15 t125 x152_4) from ge145_0);clear hv145_0 ge145_0 hcc145 hce145;have HR145_0:=Aside0.mk hi145_0;have HC145_0:=Aside0.mk hl145_0;clear hi145_0 hl145_0;replace p145:=eq_true p145;replace q145:=eq_true q145;go_wp2;go_roundg k4
                     case measure=>have:=HJ10.out;have:=HJ81.out;have:=HK3.out;have:=HK4.out;omega
                     case rel=>exact ⟨(true),(wrap64 (x152_4 + 1)),(q1_),(q1_),H', ⟨by have:=HJ10.out;have:=HJ81.out;have:=HK3.out;have:=HK4.out;omega⟩,⟨q7_⟩,⟨q9_⟩,⟨q10_⟩,⟨q16_⟩,⟨q15_⟩,⟨q17_⟩,⟨by (with_reducible repeat (first | apply Kd.R_alloc | apply Kd.R_drewN | apply Kd.R_drew));exact HO_143.out⟩,⟨by (with_reducible repeat (first | apply Kd.S_alloc | apply Kd.S_drewN | apply Kd.S_drew));exact HO_150.out⟩,⟨by (with_reducible repeat (first | refine blk_drewN ?_ _ | refine blk_drew ?_ | refine blk_alloc ?_ _));exact BK144.out⟩,⟨q31_⟩⟩
                    ·replace c102:=Bool.eq_false_iff.mpr c102;subst c102;have H1 : (if 0 < ((rd_L15 t125 x152_4).length : Int) then (laws_FnMerges.l1 k4 t101 t102 t107 t114 t125 t129 t130 x145_3 ((rd (rd_L15 t125 x152_4) 0) == x145_3) t101 (t101.length : Int) x145_3 t125 (t125.length : Int) (wrap64 (x152_4 + 1)) ((rd_T58 t101 x145_3).f0) ((rd_T58 t101 x145_3).f1) ((rd_T58 t101 x145_3).f2)) else (none)) = some r:=by rw [if_neg (show ¬ (false = true) by decide)] at H;exact H
                     clear H;have H:=H1;clear H1;by_cases c103 : 0 < ((rd_L15 t125 x152_4).length : Int)
                     ·rw [if_pos c103] at H;have c103b0 : decide (0 < ((rd_L15 t125 x152_4).length : Int)) = true:=decide_eq_true c103;have c103b1 : decide (0 < (rd_L15 t125 x152_4).length) = true:=decide_eq_true (by omega);clear c103;have H' := Aside0.mk H;clear H;have p145 : 0 ≤ (x152_4 : Int):=of_decide_eq_true (q2_);have q145 : x152_4 < (t125.length : Int):=of_decide_eq_true (q2_);obtain ⟨ad145,A145_0,c145_0,e145,hx145_0,hl145_0,hi145_0⟩:=at_L15 (Kd.S_reads' HO_150.out).2.2 x152_4 p145 q145;cases e145;obtain ⟨ce145,hce145,hMe145,hcc145⟩:=Kd.S_get HO_150.out [] x152_4 p145 (by first | exact q145 | exact of_decide_eq_true (q2_) | (have e_:=(Kd.S_reads' HO_150.out).1;omega));obtain ⟨ve145_0,rfl,ge145_0⟩:=hMe145;have hv145_0:=hcc145 0 _ rfl;rw [Nat.add_zero,show ((Kd.slice 3 (Kd.int .i64))).sz = 1 from rfl,Nat.mul_one] at hv145_0;replace hv145_0:=Option.some.inj (hv145_0.symm.trans hx145_0);rw [hv145_0] at ge145_0;have HL145_0:=Aside0.mk (show Kd.R (Kd.int .i64) 3 _ _ _ _ (rd_L15 t125 x152_4) from ge145_0);clear hv145_0 ge145_0 hcc145 hce145;have HR145_0:=Aside0.mk hi145_0;have HC145_0:=Aside0.mk hl145_0;clear hi145_0 hl145_0;replace p145:=eq_true p145;replace q145:=eq_true q145;have p146 : 0 ≤ (0 : Int):=(by omega);have q146 : 0 < ((rd_L15 t125 x152_4).length : Int):=of_decide_eq_true (q2_);obtain ⟨ad146,e146,hx146_0⟩:=Kd.at_int (by repeat (first | (with_reducible exact HR145_0.out) | (with_reducible refine Kd.C_alloc ?_ _) | (with_reducible refine Kd.C_drewN ?_ _) | (with_reducible refine Kd.C_drew ?_) | exact HR145_0.out)) 0 p146 q146;cases e146;have qi146 : (0 < (rd_L15 t125 x152_4).length) = True:=eq_true (by omega)
                      (try rw [show ((0 : Int)).toNat = 0 from rfl] at hx146_0)
                      (try rw [Addr.add_zero'] at hx146_0)
                      replace p146:=eq_true p146;replace q146:=eq_true q146;go_wp2;go_roundg k4
                      case measure=>have:=HJ10.out;have:=HJ81.out;have:=HK3.out;have:=HK4.out;omega
                      case rel=>exact ⟨(((rd (rd_L15 t125 x152_4) 0) == x145_3)),(wrap64 (x152_4 + 1)),(q1_),(q1_),H', ⟨by have:=HJ10.out;have:=HJ81.out;have:=HK3.out;have:=HK4.out;omega⟩,⟨q7_⟩,⟨q9_⟩,⟨q10_⟩,⟨q16_⟩,⟨q15_⟩,⟨q17_⟩,⟨by (with_reducible repeat (first | apply Kd.R_alloc | apply Kd.R_drewN | apply Kd.R_drew));exact HO_143.out⟩,⟨by (with_reducible repeat (first | apply Kd.S_alloc | apply Kd.S_drewN | apply Kd.S_drew));exact HO_150.out⟩,⟨by (with_reducible repeat (first | refine blk_drewN ?_ _ | refine blk_drew ?_ | refine blk_alloc ?_ _));exact BK144.out⟩,⟨q31_⟩⟩
                     ·rw [if_neg c103] at H;exact absurd H (by simp)
                   ·rw [if_neg c101] at H;exact absurd H (by simp)
                  ·rw [if_neg c100] at H;exact absurd H (by simp)
                 ·rw [if_neg c99] at H;have c99b0 : decide (x152_4 < (t125.length : Int)) = false:=decide_eq_false c99;clear c99;obtain ⟨y147,hy147⟩ : ∃ y_ : List (S58),y_ = (([(⟨((rd_T58 t101 x145_3).f0),((rd_T58 t101 x145_3).f1),((rd_T58 t101 x145_3).f2)⟩ : S58)] : List (S58))):=⟨_,rfl⟩;replace H : ((impl_OnlyIn.f k4 y147 t107).bind fun bt150=>(if bt150.2 = true then (if ((decide ((bt150.1.length : Int) > 0)) != x23_4) = true then (some false) else (laws_FnMerges.l0 k4 t101 t102 t107 t114 t125 t129 t130 t101 (t101.length : Int) (wrap64 (x145_3 + 1)))) else (some false))) = some r:=by first | (rw [hy147];with_reducible exact H) | (have H2_:=(Option.bind_some _ _).symm.trans H;rw [hy147];with_reducible exact H2_) | (have H2_:=(Option.bind_some _ _).symm.trans H;with_reducible exact H2_) | with_reducible exact H | (rw [hy147];exact H) | exact H
                  have Ny147:=Aside0.mk hy147;clear hy147;replace H:=Option.bind_eq_some_iff.mp H;obtain ⟨⟨t150,t151⟩,A1040,H⟩:=H;(try dsimp only at H);have A104:=Aside0.mk A1040;clear A1040;by_cases c105 : t151 = true
                  ·subst c105;have H1 : (if ((decide ((t150.length : Int) > 0)) != x23_4) = true then (some false) else (laws_FnMerges.l0 k4 t101 t102 t107 t114 t125 t129 t130 t101 (t101.length : Int) (wrap64 (x145_3 + 1)))) = some r:=by rw [if_pos rfl] at H;exact H
                   clear H;have H:=H1;clear H1;by_cases c106 : ((decide ((t150.length : Int) > 0)) != x23_4) = true
                   ·rw [if_pos c106] at H;have c106b0 : ((decide ((t150.length : Int) > 0)) != x23_4) = true:=c106
                    (try (have c106b1 : decide ((decide ((t150.length : Int) > 0)) = x23_4) = false:=by simpa using c106))
                    (try (have c106b2 : ((decide ((t150.length : Int) > 0)) == x23_4) = false:=by simpa using c106))
                    (try (have c106b3 : ¬ ((decide ((t150.length : Int) > 0)) = x23_4):=by simpa using c106))
                    clear c106;exact absurd (Option.some.inj H) (by rw [ht_.out];decide)
                   ·rw [if_neg c106] at H;have c106b0 : ((decide ((t150.length : Int) > 0)) != x23_4) = false:=by simpa using c106
                    have c106b7 : (decide (0 < t150.length) == x23_4) = true:=by
                     have h:=c106b0;rw [show (decide ((t150.length : Int) > 0)) = decide (0 < t150.length) from decide_eq_decide.2 (by omega)] at h
                     revert h
                     cases decide (0 < t150.length) <;> cases x23_4 <;> decide
                    (try (have c106b1 : decide ((decide ((t150.length : Int) > 0)) = x23_4) = true:=by simpa using c106))
                    (try (have c106b2 : ((decide ((t150.length : Int) > 0)) == x23_4) = true:=by simpa using c106))
                    clear c106;have H' := Aside0.mk H;clear H;obtain ⟨hcz107_0,hcz107_1,hcz107_2,hfz107_0,hfz107_1,hfz107_2⟩:=bx3_ BK144.out;go_wp2_with (first | ((with_reducible refine gate_dst (N:=167) rfl ?_);(try (refine gate_guard (by rfl) ?_;dsimp only));refine Kd.R_lit k58 _ 58 ?hg (N:=167) ?hd (xs:=([(⟨((rd_T58 t101 x145_3).f0),((rd_T58 t101 x145_3).f1),((rd_T58 t101 x145_3).f2)⟩ : S58)] : List (S58))) (inner:=[.int .i64 ((rd_T58 t101 x145_3).f0),.int .i64 ((rd_T58 t101 x145_3).f1),.string ((rd_T58 t101 x145_3).f2)]) (ok:=fun _=>True) (okp:=fun _=>True) ?hr ?hp (fun _ hk=>hk) trivial (Below.refl _ _) (Nat.le_refl _) (by simp) ?_;(case hd=>rfl);(case hg=>rfl);(case hr=>first | (go_simp;done) | (go_simp;rfl));(case hp=>exact (Reps.c3 (show Kd.M k58 _ _ _ (⟨((rd_T58 t101 x145_3).f0),((rd_T58 t101 x145_3).f1),((rd_T58 t101 x145_3).f2)⟩ : S58) [.int .i64 ((rd_T58 t101 x145_3).f0),.int .i64 ((rd_T58 t101 x145_3).f1),.string ((rd_T58 t101 x145_3).f2)] from (k58_mkM _ _ _ (⟨((rd_T58 t101 x145_3).f0),((rd_T58 t101 x145_3).f1),((rd_T58 t101 x145_3).f2)⟩ : S58) )) (Reps.none _ _)));intro v148 w108 ho109 hb hg_ hnew_;clear hg_ hnew_;(first | rw [← Ny147.out] at ho109 | (simp only [Int.reduceToNat] at ho109;rw [← Ny147.out] at ho109));replace HO_15:=Aside0.mk (Kd.S_below (q15_) hb);replace HO_150:=Aside0.mk (Kd.S_below (by (with_reducible repeat (first | apply Kd.S_alloc | apply Kd.S_drewN | apply Kd.S_drew));exact HO_150.out) hb);have HO149:=Aside0.mk (Kd.R_lower (Kd.R_newB (Kd.R_new' (Kd.R_new' (Kd.R_new' (Kd.R_new' (Kd.R_new' (Kd.R_new' ho109 (Kd.R_lt (q7_))) (Kd.R_lt (q9_))) (Kd.R_lt (q10_))) (Kd.R_lt (q16_))) (Kd.R_lt (q17_))) (Kd.R_lt (by (with_reducible repeat (first | apply Kd.R_alloc | apply Kd.R_drewN | apply Kd.R_drew));exact HO_143.out))) (g:=gb144) (o:=.cells #[.int .i64 ((rd_T58 t101 x145_3).f0),.int .i64 ((rd_T58 t101 x145_3).f1),.string ((rd_T58 t101 x145_3).f2)] 58 (0,0)) (by (with_reducible repeat (first | refine blk_drewN ?_ _ | refine blk_drew ?_ | refine blk_alloc ?_ _));exact BK144.out)) (below_size (q31_)));replace HO_5:=rE_ HO_5 ho109 hb;replace HO_6:=rE_ HO_6 ho109 hb;replace HO_7:=rE_ HO_7 ho109 hb;replace HO_10:=rE_ HO_10 ho109 hb;replace HO_17:=rE_ HO_17 ho109 hb;replace HO_143:=rE_ HO_143 ho109 hb;replace BK144:=bkB_ BK144 hb;replace HB:=Aside0.mk (below_step (q31_) hb);clear hb ho109;obtain ⟨Ao110,co110,eo110⟩:=Kd.R_slice HO149.out;subst eo110;obtain ⟨Ao111,co111,eo111⟩:=Kd.R_slice HO_7.out;subst eo111) | ((with_reducible refine gate_callee (f:=98) rfl ?_);refine goesL_ (some 169) rfl rfl Try.func98 (by kernel_rfl) rfl #[.slice Ao110 y147.length co110,.slice Ao111 t107.length co111] rfl (q24_) ?_;(with_reducible refine (impl_OnlyIn.calls k4 _ _ y147 _ _ t107 t150 true _ ?side1 ?side2 ?side3 ?side4 A104.out).mono ?_);(case side1=>exact cX_ (Kd.R_reads' HO149.out).2.2);(case side2=>exact (Kd.R_reads' HO149.out).2.1);(case side3=>exact cX_ (Kd.R_reads' HO_7.out).2.2);(case side4=>exact (Kd.R_reads' HO_7.out).2.1);rintro e w112 ⟨v152,rfl,ho0,hb⟩;refine ⟨_,rfl,?_⟩;replace HO_15:=Aside0.mk (Kd.S_below (q15_) hb);replace HO_150:=Aside0.mk (Kd.S_below (by (with_reducible repeat (first | apply Kd.S_alloc | apply Kd.S_drewN | apply Kd.S_drew));exact HO_150.out) hb);have HO153:=Aside0.mk (Kd.R_lower (Kd.R_newB (Kd.R_new' (Kd.R_new' (Kd.R_new' (Kd.R_new' (Kd.R_new' (Kd.R_new' (Kd.R_new' ho0 (Kd.R_lt (q7_))) (Kd.R_lt (q9_))) (Kd.R_lt (q10_))) (Kd.R_lt (q16_))) (Kd.R_lt (q17_))) (Kd.R_lt (by (with_reducible repeat (first | apply Kd.R_alloc | apply Kd.R_drewN | apply Kd.R_drew));exact HO_143.out))) (Kd.R_lt (by (with_reducible repeat (first | apply Kd.R_alloc | apply Kd.R_drewN | apply Kd.R_drew));exact HO149.out))) (g:=gb144) (o:=.cells #[.int .i64 ((rd_T58 t101 x145_3).f0),.int .i64 ((rd_T58 t101 x145_3).f1),.string ((rd_T58 t101 x145_3).f2)] 58 (0,0)) (by (with_reducible repeat (first | refine blk_drewN ?_ _ | refine blk_drew ?_ | refine blk_alloc ?_ _));exact BK144.out)) (below_size (q31_)));replace HO_5:=rE_ HO_5 ho0 hb;replace HO_6:=rE_ HO_6 ho0 hb;replace HO_7:=rE_ HO_7 ho0 hb;replace HO_10:=rE_ HO_10 ho0 hb;replace HO_17:=rE_ HO_17 ho0 hb;replace HO_143:=rE_ HO_143 ho0 hb;replace HO149:=rE_ HO149 ho0 hb;replace BK144:=bkB_ BK144 hb;replace HB:=Aside0.mk (below_step (q31_) hb);(try clear hb);(try clear ho0);obtain ⟨Ao113,co113,eo113⟩:=Kd.R_slice HO153.out;subst eo113))
                    go_roundg k4
                    case measure=>have:=HJ10.out;have:=HJ81.out;have:=HK3.out;have:=HK4.out;omega
                    case rel=>exact ⟨(wrap64 (x145_3 + 1)),(q1_),H', ⟨by have:=HJ10.out;have:=HJ81.out;have:=HK3.out;have:=HK4.out;omega⟩,⟨by (with_reducible repeat (first | apply Kd.R_alloc | apply Kd.R_drewN | apply Kd.R_drew));exact Kd.R_mono HO_5.out (fun _ hk=>⟨hk.1.1.1,⟨hk.1.1.2.1,⟨hk.1.1.2.2.1,hk.1.1.2.2.2.1⟩⟩⟩)⟩,⟨by (with_reducible repeat (first | apply Kd.R_alloc | apply Kd.R_drewN | apply Kd.R_drew));exact Kd.R_mono HO_6.out (fun _ hk=>⟨hk.1.1.1,⟨hk.1.1.2.1,⟨hk.1.1.2.2.1,⟨hk.1.1.2.2.2.1,hk.1.1.2.2.2.2.1⟩⟩⟩⟩)⟩,⟨by (with_reducible repeat (first | apply Kd.R_alloc | apply Kd.R_drewN | apply Kd.R_drew));exact Kd.R_mono HO_7.out (fun _ hk=>⟨hk.1.1.1,⟨hk.1.1.2.1,⟨hk.1.1.2.2.1,⟨hk.1.1.2.2.2.1,hk.1.1.2.2.2.2.1⟩⟩⟩⟩)⟩,⟨by (with_reducible repeat (first | apply Kd.R_alloc | apply Kd.R_drewN | apply Kd.R_drew));exact Kd.R_mono HO_10.out (fun _ hk=>⟨hk.1.1.1,⟨hk.1.1.2.1,⟨hk.1.1.2.2.1,⟨hk.1.1.2.2.2.1,hk.1.1.2.2.2.2.1⟩⟩⟩⟩)⟩,⟨q15_⟩,⟨by (with_reducible repeat (first | apply Kd.R_alloc | apply Kd.R_drewN | apply Kd.R_drew));exact Kd.R_mono HO_17.out (fun _ hk=>⟨hk.1.1.1,⟨hk.1.1.2.1,⟨hk.1.1.2.2.1,⟨hk.1.1.2.2.2.1,hk.1.1.2.2.2.2.1⟩⟩⟩⟩)⟩,⟨by (with_reducible repeat (first | apply Kd.R_alloc | apply Kd.R_drewN | apply Kd.R_drew));exact Kd.R_mono HO_143.out (fun _ hk=>⟨hk.1.1.1,⟨hk.1.1.2.1,⟨hk.1.1.2.2.1,hk.1.1.2.2.2.1⟩⟩⟩)⟩,⟨q31_⟩⟩
                  ·replace c105:=Bool.eq_false_iff.mpr c105;subst c105;have H1 : (some false) = some r:=by rw [if_neg (show ¬ (false = true) by decide)] at H;exact H
                   clear H;have H:=H1;clear H1;exact absurd (Option.some.inj H) (by rw [ht_.out];decide)
              ·rw [if_neg c95] at H;exact absurd H (by simp)
             ·rw [if_neg c94] at H;exact absurd H (by simp)
            ·rw [if_neg c93] at H;have c93b0 : decide (x145_3 < (t101.length : Int)) = false:=decide_eq_false c93;clear c93;have H' := Aside0.mk H;clear H;go_wp2;go_loopg [184] k3 (fun kq v184 w' => ∃ (x184_4 : Int),v184 = .int .i64 x184_4 ∧ Aside0 (laws_FnMerges.l2 kq t101 t102 t107 t114 t125 t129 t130 t102 (t102.length : Int) x184_4 = some r) ∧ Aside0 (kq ≤ k3) ∧ Aside0 (Kd.R k58 58 w' w.heap.size (fun k_=>some k_ ≠ ((.slice Ao14 t102.length co14) : Value).ownBlock ∧ some k_ ≠ (v110 : Value).ownBlock ∧ some k_ ≠ (v117 : Value).ownBlock ∧ some k_ ≠ (v131 : Value).ownBlock ∧ some k_ ≠ ((.slice Ao14 t102.length co14) : Value).ownBlock) (.slice Ao13 t101.length co13) t101) ∧ Aside0 (Kd.R k58 58 w' w.heap.size (fun k_=>some k_ ≠ ((.slice Ao13 t101.length co13) : Value).ownBlock ∧ some k_ ≠ (v110 : Value).ownBlock ∧ some k_ ≠ (v117 : Value).ownBlock ∧ some k_ ≠ (v131 : Value).ownBlock) (.slice Ao14 t102.length co14) t102) ∧ Aside0 (Kd.R k58 58 w' w.heap.size (fun k_=>some k_ ≠ ((.slice Ao13 t101.length co13) : Value).ownBlock ∧ some k_ ≠ ((.slice Ao14 t102.length co14) : Value).ownBlock ∧ some k_ ≠ (v117 : Value).ownBlock ∧ some k_ ≠ (v131 : Value).ownBlock ∧ some k_ ≠ ((.slice Ao14 t102.length co14) : Value).ownBlock) v110 t107) ∧ Aside0 (Kd.R k58 58 w' w.heap.size (fun k_=>some k_ ≠ ((.slice Ao13 t101.length co13) : Value).ownBlock ∧ some k_ ≠ ((.slice Ao14 t102.length co14) : Value).ownBlock ∧ some k_ ≠ (v110 : Value).ownBlock ∧ some k_ ≠ (v131 : Value).ownBlock ∧ some k_ ≠ ((.slice Ao14 t102.length co14) : Value).ownBlock) v117 t114) ∧ Aside0 (Kd.S (Kd.slice 3 (Kd.int .i64)) 65 w' w.heap.size (fun _=>True) v127 t125) ∧ Aside0 (Kd.R k58 58 w' w.heap.size (fun k_=>some k_ ≠ ((.slice Ao13 t101.length co13) : Value).ownBlock ∧ some k_ ≠ ((.slice Ao14 t102.length co14) : Value).ownBlock ∧ some k_ ≠ (v110 : Value).ownBlock ∧ some k_ ≠ (v117 : Value).ownBlock ∧ some k_ ≠ ((.slice Ao14 t102.length co14) : Value).ownBlock) v131 t129) ∧ Aside0 (Kd.R k58 58 w' w.heap.size (fun k_=>some k_ ≠ ((.slice Ao13 t101.length co13) : Value).ownBlock ∧ some k_ ≠ (v110 : Value).ownBlock ∧ some k_ ≠ (v117 : Value).ownBlock ∧ some k_ ≠ (v131 : Value).ownBlock) (.slice Ao14 t102.length co14) t102) ∧ Aside0 (Below w.heap.size w w'))
             case atStart=>exact ⟨(0),(q1_),H', ⟨Nat.le_refl _⟩,⟨by (with_reducible repeat (first | apply Kd.R_alloc | apply Kd.R_drewN | apply Kd.R_drew));exact Kd.R_mono HO_5.out (fun _ hk=>⟨hk.1,⟨hk.2.1,⟨hk.2.2.1,⟨hk.2.2.2,hk.1⟩⟩⟩⟩)⟩,⟨by (with_reducible repeat (first | apply Kd.R_alloc | apply Kd.R_drewN | apply Kd.R_drew));exact Kd.R_mono HO_6.out (fun _ hk=>⟨hk.1,⟨hk.2.1,⟨hk.2.2.1,hk.2.2.2.1⟩⟩⟩)⟩,⟨by (with_reducible repeat (first | apply Kd.R_alloc | apply Kd.R_drewN | apply Kd.R_drew));exact Kd.R_mono HO_7.out (fun _ hk=>⟨hk.1,⟨hk.2.1,⟨hk.2.2.1,⟨hk.2.2.2.1,hk.2.1⟩⟩⟩⟩)⟩,⟨by (with_reducible repeat (first | apply Kd.R_alloc | apply Kd.R_drewN | apply Kd.R_drew));exact Kd.R_mono HO_10.out (fun _ hk=>⟨hk.1,⟨hk.2.1,⟨hk.2.2.1,⟨hk.2.2.2.1,hk.2.1⟩⟩⟩⟩)⟩,⟨q15_⟩,⟨by (with_reducible repeat (first | apply Kd.R_alloc | apply Kd.R_drewN | apply Kd.R_drew));exact Kd.R_mono HO_17.out (fun _ hk=>⟨hk.1,⟨hk.2.1,⟨hk.2.2.1,⟨hk.2.2.2.1,hk.2.1⟩⟩⟩⟩)⟩,⟨by (with_reducible repeat (first | apply Kd.R_alloc | apply Kd.R_drewN | apply Kd.R_drew));exact Kd.R_mono HO_6.out (fun _ hk=>⟨hk.1,⟨hk.2.1,⟨hk.2.2.1,hk.2.2.2.1⟩⟩⟩)⟩,⟨q22_⟩⟩
             case round =>
              clear H';try clear c1
              try clear c3
              try clear c3b0
              try clear c21
              try clear c21b0
              try clear c21b1
              try clear c21b2
              try clear c23
              try clear c25
              try clear c26
              try clear c26b0
              try clear c26b1
              try clear c26b2
              try clear c32
              try clear c33
              try clear c33b0
              try clear c33b1
              try clear c33b2
              try clear c41
              try clear c42
              try clear c79
              try clear c81
              try clear c84
              try clear c92
              try clear c93
              try clear c93b0
              try clear c94
              try clear c94b0
              try clear c95
              try clear c95b0
              try clear c99
              try clear c99b0
              try clear c100
              try clear c100b0
              try clear c101
              try clear c101b0
              try clear c102
              try clear c103
              try clear c103b0
              try clear c103b1
              try clear c105
              try clear c106
              try clear c106b0
              try clear c106b1
              try clear c106b2
              try clear hcz107_0
              try clear hcz107_1
              try clear hcz107_2
              try clear hcz97_0
              try clear hcz97_1
              try clear hcz97_2
              try clear hfz107_0
              try clear hfz107_1
              try clear hfz107_2
              try clear hfz97_0
              try clear hfz97_1
              try clear hfz97_2
              try clear hx143_0
              try clear hx143_1
              try clear hx143_2
              try clear hx145_0
              try clear hx146_0
              try clear p143
              try clear p145
              try clear p146
              try clear q143
              try clear q145
              try clear q146
              obtain ⟨x184_4,rfl,HA,HK4,HO_5,HO_6,HO_7,HO_10,HO_15,HO_17,HO_182,HB⟩:=hrel;cases gk with
              | zero=>exact absurd HA.out (by simp [laws_FnMerges.l2])
              | succ k4 =>
               have H:=HA.out;clear HA;simp only [laws_FnMerges.l2] at H;by_cases c114 : x184_4 < (t102.length : Int)
               ·rw [if_pos c114] at H;have c114b0 : decide (x184_4 < (t102.length : Int)) = true:=decide_eq_true c114;clear c114;by_cases c115 : 0 ≤ x184_4
                ·rw [if_pos c115] at H;have c115b0 : decide (0 ≤ x184_4) = true:=decide_eq_true c115;clear c115;by_cases c116 : x184_4 < (t102.length : Int)
                 ·rw [if_pos c116] at H;have c116b0 : decide (x184_4 < (t102.length : Int)) = true:=decide_eq_true c116;clear c116;have H' := Aside0.mk H;clear H;have p154 : 0 ≤ (x184_4 : Int):=of_decide_eq_true (q2_);have q154 : x184_4 < (t102.length : Int):=of_decide_eq_true (q2_);obtain ⟨ad154,e154,hx154_0,hx154_1,hx154_2⟩:=at_T58 (Kd.R_reads' HO_182.out).2.2 x184_4 p154 q154;cases e154;replace p154:=eq_true p154;replace q154:=eq_true q154;go_wp2_with (first | ((with_reducible refine gate_dst (N:=29) rfl ?_);(try (refine gate_guard (by rfl) ?_;dsimp only));refine box_event ?hg (N:=29) ?hd (cs:=#[.int .i64 0,.int .i64 0,.string (⟨#[]⟩ : ByteArray)]) (t:=58) ?hr ?_;(case hd=>rfl);(case hg=>rfl);(case hr=>first | (go_simp;done) | (go_simp;rfl));intro gb155 hg w117 hbox hb;replace HO_5:=Aside0.mk (Kd.R_below (Kd.R_elderB (q7_) gb155 (Nat.le_of_eq hg.symm)) hb);replace HO_6:=Aside0.mk (Kd.R_below (Kd.R_elderB (q9_) gb155 (Nat.le_of_eq hg.symm)) hb);replace HO_7:=Aside0.mk (Kd.R_below (Kd.R_elderB (q10_) gb155 (Nat.le_of_eq hg.symm)) hb);replace HO_10:=Aside0.mk (Kd.R_below (Kd.R_elderB (q16_) gb155 (Nat.le_of_eq hg.symm)) hb);replace HO_15:=Aside0.mk (Kd.S_below (q15_) hb);replace HO_17:=Aside0.mk (Kd.R_below (Kd.R_elderB (q17_) gb155 (Nat.le_of_eq hg.symm)) hb);replace HO_182:=Aside0.mk (Kd.R_below (Kd.R_elderB (by (with_reducible repeat (first | apply Kd.R_alloc | apply Kd.R_drewN | apply Kd.R_drew));exact HO_182.out) gb155 (Nat.le_of_eq hg.symm)) hb);have BK155:=Aside0.mk (hbox);have GW155:=Aside0.mk ((q59_ : w.heap.size ≤ gb155));have GE155:=Aside0.mk ((q59_ : w.heap.size ≤ gb155));replace HB:=bS_ HB hb;clear hb hbox hg;obtain ⟨hcz118_0,hcz118_1,hcz118_2,hfz118_0,hfz118_1,hfz118_2⟩:=bx3_ BK155.out;obtain ⟨Ao119,co119,eo119⟩:=Kd.S_slice HO_15.out;subst eo119))
                  go_loopg [30,191] k4 (fun kq v30 v191 w' => ∃ (x30_5 : Bool) (x191_5 : Int),v30 = .bool x30_5 ∧ v191 = .int .i64 x191_5 ∧ Aside0 (laws_FnMerges.l3 kq t101 t102 t107 t114 t125 t129 t130 x184_4 x30_5 t102 (t102.length : Int) x184_4 t125 (t125.length : Int) x191_5 ((rd_T58 t102 x184_4).f0) ((rd_T58 t102 x184_4).f1) ((rd_T58 t102 x184_4).f2) = some r) ∧ Aside0 (kq ≤ k4) ∧ Aside0 (Kd.R k58 58 w' w.heap.size (fun k_=>some k_ ≠ ((.slice (some ad154) t102.length co14) : Value).ownBlock ∧ some k_ ≠ (v110 : Value).ownBlock ∧ some k_ ≠ (v117 : Value).ownBlock ∧ some k_ ≠ (v131 : Value).ownBlock ∧ some k_ ≠ ((.slice (some ad154) t102.length co14) : Value).ownBlock ∧ k_ ≠ gb155) (.slice Ao13 t101.length co13) t101) ∧ Aside0 (Kd.R k58 58 w' w.heap.size (fun k_=>some k_ ≠ ((.slice Ao13 t101.length co13) : Value).ownBlock ∧ some k_ ≠ (v110 : Value).ownBlock ∧ some k_ ≠ (v117 : Value).ownBlock ∧ some k_ ≠ (v131 : Value).ownBlock ∧ k_ ≠ gb155) (.slice (some ad154) t102.length co14) t102) ∧ Aside0 (Kd.R k58 58 w' w.heap.size (fun k_=>some k_ ≠ ((.slice Ao13 t101.length co13) : Value).ownBlock ∧ some k_ ≠ ((.slice (some ad154) t102.length co14) : Value).ownBlock ∧ some k_ ≠ (v117 : Value).ownBlock ∧ some k_ ≠ (v131 : Value).ownBlock ∧ some k_ ≠ ((.slice (some ad154) t102.length co14) : Value).ownBlock ∧ k_ ≠ gb155) v110 t107) ∧ Aside0 (Kd.R k58 58 w' w.heap.size (fun k_=>some k_ ≠ ((.slice Ao13 t101.length co13) : Value).ownBlock ∧ some k_ ≠ ((.slice (some ad154) t102.length co14) : Value).ownBlock ∧ some k_ ≠ (v110 : Value).ownBlock ∧ some k_ ≠ (v131 : Value).ownBlock ∧ some k_ ≠ ((.slice (some ad154) t102.length co14) : Value).ownBlock ∧ k_ ≠ gb155) v117 t114) ∧ Aside0 (Kd.S (Kd.slice 3 (Kd.int .i64)) 65 w' w.heap.size (fun _=>True) (.slice Ao119 t125.length co119) t125) ∧ Aside0 (Kd.R k58 58 w' w.heap.size (fun k_=>some k_ ≠ ((.slice Ao13 t101.length co13) : Value).ownBlock ∧ some k_ ≠ ((.slice (some ad154) t102.length co14) : Value).ownBlock ∧ some k_ ≠ (v110 : Value).ownBlock ∧ some k_ ≠ (v117 : Value).ownBlock ∧ some k_ ≠ ((.slice (some ad154) t102.length co14) : Value).ownBlock ∧ k_ ≠ gb155) v131 t129) ∧ Aside0 (Kd.R k58 58 w' w.heap.size (fun k_=>some k_ ≠ ((.slice Ao13 t101.length co13) : Value).ownBlock ∧ some k_ ≠ (v110 : Value).ownBlock ∧ some k_ ≠ (v117 : Value).ownBlock ∧ some k_ ≠ (v131 : Value).ownBlock ∧ k_ ≠ gb155) (.slice (some ad154) t102.length co14) t102) ∧ Aside0 (Kd.S (Kd.slice 3 (Kd.int .i64)) 65 w' w.heap.size (fun _=>True) (.slice Ao119 t125.length co119) t125) ∧ Aside0 (w'.heap[gb155]? = some (.cells #[.int .i64 ((rd_T58 t102 x184_4).f0),.int .i64 ((rd_T58 t102 x184_4).f1),.string ((rd_T58 t102 x184_4).f2)] 58 (0,0))) ∧ Aside0 (Below w.heap.size w w'))
                  case atStart=>exact ⟨(false),(0),(q1_),(q1_),H', ⟨Nat.le_refl _⟩,⟨by (with_reducible repeat (first | apply Kd.R_alloc | apply Kd.R_drewN | apply Kd.R_drew));exact Kd.R_mono (Kd.R_far (p:=⟨gb155,2,none⟩) (Kd.R_far (p:=⟨gb155,1,none⟩) (Kd.R_far (p:=⟨gb155,0,none⟩) (Kd.R_mono HO_5.out (fun k_ hk=>(⟨hk,hk.2⟩ : _ ∧ k_ ≠ gb155))) (fun _ hk=>hk.2) (.int .i64 ((rd_T58 t102 x184_4).f0))) (fun _ hk=>hk.2) (.int .i64 ((rd_T58 t102 x184_4).f1))) (fun _ hk=>hk.2) (.string ((rd_T58 t102 x184_4).f2))) (fun _ hk=>⟨hk.1.1.1,⟨hk.1.1.2.1,⟨hk.1.1.2.2.1,⟨hk.1.1.2.2.2.1,⟨hk.1.1.2.2.2.2,hk.1.2⟩⟩⟩⟩⟩)⟩,⟨by (with_reducible repeat (first | apply Kd.R_alloc | apply Kd.R_drewN | apply Kd.R_drew));exact Kd.R_mono (Kd.R_far (p:=⟨gb155,2,none⟩) (Kd.R_far (p:=⟨gb155,1,none⟩) (Kd.R_far (p:=⟨gb155,0,none⟩) (Kd.R_mono HO_6.out (fun k_ hk=>(⟨hk,hk.2⟩ : _ ∧ k_ ≠ gb155))) (fun _ hk=>hk.2) (.int .i64 ((rd_T58 t102 x184_4).f0))) (fun _ hk=>hk.2) (.int .i64 ((rd_T58 t102 x184_4).f1))) (fun _ hk=>hk.2) (.string ((rd_T58 t102 x184_4).f2))) (fun _ hk=>⟨hk.1.1.1,⟨hk.1.1.2.1,⟨hk.1.1.2.2.1,⟨hk.1.1.2.2.2,hk.1.2⟩⟩⟩⟩)⟩,⟨by (with_reducible repeat (first | apply Kd.R_alloc | apply Kd.R_drewN | apply Kd.R_drew));exact Kd.R_mono (Kd.R_far (p:=⟨gb155,2,none⟩) (Kd.R_far (p:=⟨gb155,1,none⟩) (Kd.R_far (p:=⟨gb155,0,none⟩) (Kd.R_mono HO_7.out (fun k_ hk=>(⟨hk,hk.2⟩ : _ ∧ k_ ≠ gb155))) (fun _ hk=>hk.2) (.int .i64 ((rd_T58 t102 x184_4).f0))) (fun _ hk=>hk.2) (.int .i64 ((rd_T58 t102 x184_4).f1))) (fun _ hk=>hk.2) (.string ((rd_T58 t102 x184_4).f2))) (fun _ hk=>⟨hk.1.1.1,⟨hk.1.1.2.1,⟨hk.1.1.2.2.1,⟨hk.1.1.2.2.2.1,⟨hk.1.1.2.2.2.2,hk.1.2⟩⟩⟩⟩⟩)⟩,⟨by (with_reducible repeat (first | apply Kd.R_alloc | apply Kd.R_drewN | apply Kd.R_drew));exact Kd.R_mono (Kd.R_far (p:=⟨gb155,2,none⟩) (Kd.R_far (p:=⟨gb155,1,none⟩) (Kd.R_far (p:=⟨gb155,0,none⟩) (Kd.R_mono HO_10.out (fun k_ hk=>(⟨hk,hk.2⟩ : _ ∧ k_ ≠ gb155))) (fun _ hk=>hk.2) (.int .i64 ((rd_T58 t102 x184_4).f0))) (fun _ hk=>hk.2) (.int .i64 ((rd_T58 t102 x184_4).f1))) (fun _ hk=>hk.2) (.string ((rd_T58 t102 x184_4).f2))) (fun _ hk=>⟨hk.1.1.1,⟨hk.1.1.2.1,⟨hk.1.1.2.2.1,⟨hk.1.1.2.2.2.1,⟨hk.1.1.2.2.2.2,hk.1.2⟩⟩⟩⟩⟩)⟩,⟨by (with_reducible repeat (first | apply Kd.S_alloc | apply Kd.S_drewN | apply Kd.S_drew));exact Kd.S_mono (Kd.S_far (p:=⟨gb155,2,none⟩) (Kd.S_far (p:=⟨gb155,1,none⟩) (Kd.S_far (p:=⟨gb155,0,none⟩) (Kd.S_types HO_15.out BK155.out (by decide)) (fun _ hk=>hk.2) (.int .i64 ((rd_T58 t102 x184_4).f0))) (fun _ hk=>hk.2) (.int .i64 ((rd_T58 t102 x184_4).f1))) (fun _ hk=>hk.2) (.string ((rd_T58 t102 x184_4).f2))) (fun _ hk=>trivial)⟩,⟨by (with_reducible repeat (first | apply Kd.R_alloc | apply Kd.R_drewN | apply Kd.R_drew));exact Kd.R_mono (Kd.R_far (p:=⟨gb155,2,none⟩) (Kd.R_far (p:=⟨gb155,1,none⟩) (Kd.R_far (p:=⟨gb155,0,none⟩) (Kd.R_mono HO_17.out (fun k_ hk=>(⟨hk,hk.2⟩ : _ ∧ k_ ≠ gb155))) (fun _ hk=>hk.2) (.int .i64 ((rd_T58 t102 x184_4).f0))) (fun _ hk=>hk.2) (.int .i64 ((rd_T58 t102 x184_4).f1))) (fun _ hk=>hk.2) (.string ((rd_T58 t102 x184_4).f2))) (fun _ hk=>⟨hk.1.1.1,⟨hk.1.1.2.1,⟨hk.1.1.2.2.1,⟨hk.1.1.2.2.2.1,⟨hk.1.1.2.2.2.2,hk.1.2⟩⟩⟩⟩⟩)⟩,⟨by (with_reducible repeat (first | apply Kd.R_alloc | apply Kd.R_drewN | apply Kd.R_drew));exact Kd.R_mono (Kd.R_far (p:=⟨gb155,2,none⟩) (Kd.R_far (p:=⟨gb155,1,none⟩) (Kd.R_far (p:=⟨gb155,0,none⟩) (Kd.R_mono HO_182.out (fun k_ hk=>(⟨hk,hk.2⟩ : _ ∧ k_ ≠ gb155))) (fun _ hk=>hk.2) (.int .i64 ((rd_T58 t102 x184_4).f0))) (fun _ hk=>hk.2) (.int .i64 ((rd_T58 t102 x184_4).f1))) (fun _ hk=>hk.2) (.string ((rd_T58 t102 x184_4).f2))) (fun _ hk=>⟨hk.1.1.1,⟨hk.1.1.2.1,⟨hk.1.1.2.2.1,⟨hk.1.1.2.2.2,hk.1.2⟩⟩⟩⟩)⟩,⟨by (with_reducible repeat (first | apply Kd.S_alloc | apply Kd.S_drewN | apply Kd.S_drew));exact Kd.S_mono (Kd.S_far (p:=⟨gb155,2,none⟩) (Kd.S_far (p:=⟨gb155,1,none⟩) (Kd.S_far (p:=⟨gb155,0,none⟩) (Kd.S_types HO_15.out BK155.out (by decide)) (fun _ hk=>hk.2) (.int .i64 ((rd_T58 t102 x184_4).f0))) (fun _ hk=>hk.2) (.int .i64 ((rd_T58 t102 x184_4).f1))) (fun _ hk=>hk.2) (.string ((rd_T58 t102 x184_4).f2))) (fun _ hk=>trivial)⟩,⟨by (with_reducible repeat (first | refine blk_drewN ?_ _ | refine blk_drew ?_ | refine blk_alloc ?_ _));refine blk_put (cs:=#[.int .i64 ((rd_T58 t102 x184_4).f0),.int .i64 ((rd_T58 t102 x184_4).f1),.string (⟨#[]⟩ : ByteArray)]) ?_ 2 _ rfl;(with_reducible repeat (first | refine blk_drewN ?_ _ | refine blk_drew ?_ | refine blk_alloc ?_ _));refine blk_put (cs:=#[.int .i64 ((rd_T58 t102 x184_4).f0),.int .i64 0,.string (⟨#[]⟩ : ByteArray)]) ?_ 1 _ rfl;(with_reducible repeat (first | refine blk_drewN ?_ _ | refine blk_drew ?_ | refine blk_alloc ?_ _));refine blk_put (cs:=#[.int .i64 0,.int .i64 0,.string (⟨#[]⟩ : ByteArray)]) ?_ 0 _ rfl;(with_reducible repeat (first | refine blk_drewN ?_ _ | refine blk_drew ?_ | refine blk_alloc ?_ _));exact BK155.out⟩,⟨q32_⟩⟩
                  case round =>
                   clear H';try clear c1
                   try clear c3
                   try clear c3b0
                   try clear c21
                   try clear c21b0
                   try clear c21b1
                   try clear c21b2
                   try clear c23
                   try clear c25
                   try clear c26
                   try clear c26b0
                   try clear c26b1
                   try clear c26b2
                   try clear c32
                   try clear c33
                   try clear c33b0
                   try clear c33b1
                   try clear c33b2
                   try clear c41
                   try clear c42
                   try clear c79
                   try clear c81
                   try clear c84
                   try clear c92
                   try clear c93
                   try clear c93b0
                   try clear c94
                   try clear c94b0
                   try clear c95
                   try clear c95b0
                   try clear c99
                   try clear c99b0
                   try clear c100
                   try clear c100b0
                   try clear c101
                   try clear c101b0
                   try clear c102
                   try clear c103
                   try clear c103b0
                   try clear c103b1
                   try clear c105
                   try clear c106
                   try clear c106b0
                   try clear c106b1
                   try clear c106b2
                   try clear c114
                   try clear c114b0
                   try clear c115
                   try clear c115b0
                   try clear c116
                   try clear c116b0
                   try clear hcz107_0
                   try clear hcz107_1
                   try clear hcz107_2
                   try clear hcz118_0
                   try clear hcz118_1
                   try clear hcz118_2
                   try clear hcz97_0
                   try clear hcz97_1
                   try clear hcz97_2
                   try clear hfz107_0
                   try clear hfz107_1
                   try clear hfz107_2
                   try clear hfz118_0
                   try clear hfz118_1
                   try clear hfz118_2
                   try clear hfz97_0
                   try clear hfz97_1
                   try clear hfz97_2
                   try clear hx143_0
                   try clear hx143_1
                   try clear hx143_2
                   try clear hx145_0
                   try clear hx146_0
                   try clear hx154_0
                   try clear hx154_1
                   try clear hx154_2
                   try clear p143
                   try clear p145
                   try clear p146
                   try clear p154
                   try clear q143
                   try clear q145
                   try clear q146
                   try clear q154
                   obtain ⟨x30_5,x191_5,rfl,rfl,HA,HK5,HO_5,HO_6,HO_7,HO_10,HO_15,HO_17,HO_182,HO_189,BK155,HB⟩:=hrel;cases gk with
                   | zero=>exact absurd HA.out (by simp [laws_FnMerges.l3])
                   | succ k5 =>
                    have H:=HA.out;clear HA;simp only [laws_FnMerges.l3] at H;by_cases c120 : x191_5 < (t125.length : Int)
                    ·rw [if_pos c120] at H;have c120b0 : decide (x191_5 < (t125.length : Int)) = true:=decide_eq_true c120;clear c120;by_cases c121 : 0 ≤ x191_5
                     ·rw [if_pos c121] at H;have c121b0 : decide (0 ≤ x191_5) = true:=decide_eq_true c121;clear c121;by_cases c122 : x191_5 < (t125.length : Int)
                      ·rw [if_pos c122] at H;have c122b0 : decide (x191_5 < (t125.length : Int)) = true:=decide_eq_true c122;clear c122;by_cases c123 : x30_5 = true
                       ·subst c123;have H1 : (laws_FnMerges.l3 k5 t101 t102 t107 t114 t125 t129 t130 x184_4 true t102 (t102.length : Int) x184_4 t125 (t125.length : Int) (wrap64 (x191_5 + 1)) ((rd_T58 t102 x184_4).f0) ((rd_T58 t102 x184_4).f1) ((rd_T58 t102 x184_4).f2)) = some r:=by rw [if_pos rfl] at H;exact H
                        clear H;have H:=H1;clear H1;have H' := Aside0.mk H;clear H;have p156 : 0 ≤ (x191_5 : Int):=of_decide_eq_true (q2_);have q156 : x191_5 < (t125.length : Int):=of_decide_eq_true (q2_);obtain ⟨ad156,A156_0,c156_0,e156,hx156_0,hl156_0,hi156_0⟩:=at_L15 (Kd.S_reads' HO_189.out).2.2 x191_5 p156 q156;cases e156;obtain ⟨ce156,hce156,hMe156,hcc156⟩:=Kd.S_get HO_189.out [] x191_5 p156 (by first | exact q156 | exact of_decide_eq_true (q2_) | (have e_:=(Kd.S_reads' HO_189.out).1;omega));obtain ⟨ve156_0,rfl,ge156_0⟩:=hMe156;have hv156_0:=hcc156 0 _ rfl;rw [Nat.add_zero,show ((Kd.slice 3 (Kd.int .i64))).sz = 1 from rfl,Nat.mul_one] at hv156_0;replace hv156_0:=Option.some.inj (hv156_0.symm.trans hx156_0);rw [hv156_0] at ge156_0;have HL156_0:=Aside0.mk (show Kd.R (Kd.int .i64) 3 _ _ _ _ (rd_L15 t125 x191_5) from ge156_0);clear hv156_0 ge156_0 hcc156 hce156;have HR156_0:=Aside0.mk hi156_0;have HC156_0:=Aside0.mk hl156_0;clear hi156_0 hl156_0;replace p156:=eq_true p156;replace q156:=eq_true q156;go_wp2;go_roundg k5
                        case measure=>have:=HJ10.out;have:=HJ81.out;have:=HK3.out;have:=HK4.out;have:=HK5.out;omega
                        case rel=>exact ⟨(true),(wrap64 (x191_5 + 1)),(q1_),(q1_),H', ⟨by have:=HJ10.out;have:=HJ81.out;have:=HK3.out;have:=HK4.out;have:=HK5.out;omega⟩,⟨q7_⟩,⟨q9_⟩,⟨q10_⟩,⟨q16_⟩,⟨q15_⟩,⟨q17_⟩,⟨by (with_reducible repeat (first | apply Kd.R_alloc | apply Kd.R_drewN | apply Kd.R_drew));exact HO_182.out⟩,⟨by (with_reducible repeat (first | apply Kd.S_alloc | apply Kd.S_drewN | apply Kd.S_drew));exact HO_189.out⟩,⟨by (with_reducible repeat (first | refine blk_drewN ?_ _ | refine blk_drew ?_ | refine blk_alloc ?_ _));exact BK155.out⟩,⟨q32_⟩⟩
                       ·replace c123:=Bool.eq_false_iff.mpr c123;subst c123;have H1 : (if 1 < ((rd_L15 t125 x191_5).length : Int) then (laws_FnMerges.l3 k5 t101 t102 t107 t114 t125 t129 t130 x184_4 ((rd (rd_L15 t125 x191_5) 1) == x184_4) t102 (t102.length : Int) x184_4 t125 (t125.length : Int) (wrap64 (x191_5 + 1)) ((rd_T58 t102 x184_4).f0) ((rd_T58 t102 x184_4).f1) ((rd_T58 t102 x184_4).f2)) else (none)) = some r:=by rw [if_neg (show ¬ (false = true) by decide)] at H;exact H
                        clear H;have H:=H1;clear H1;by_cases c124 : 1 < ((rd_L15 t125 x191_5).length : Int)
                        ·rw [if_pos c124] at H;have c124b0 : decide (1 < ((rd_L15 t125 x191_5).length : Int)) = true:=decide_eq_true c124;have c124b1 : decide (1 < (rd_L15 t125 x191_5).length) = true:=decide_eq_true (by omega);clear c124;have H' := Aside0.mk H;clear H;have p156 : 0 ≤ (x191_5 : Int):=of_decide_eq_true (q2_);have q156 : x191_5 < (t125.length : Int):=of_decide_eq_true (q2_);obtain ⟨ad156,A156_0,c156_0,e156,hx156_0,hl156_0,hi156_0⟩:=at_L15 (Kd.S_reads' HO_189.out).2.2 x191_5 p156 q156;cases e156;obtain ⟨ce156,hce156,hMe156,hcc156⟩:=Kd.S_get HO_189.out [] x191_5 p156 (by first | exact q156 | exact of_decide_eq_true (q2_) | (have e_:=(Kd.S_reads' HO_189.out).1;omega));obtain ⟨ve156_0,rfl,ge156_0⟩:=hMe156;have hv156_0:=hcc156 0 _ rfl;rw [Nat.add_zero,show ((Kd.slice 3 (Kd.int .i64))).sz = 1 from rfl,Nat.mul_one] at hv156_0;replace hv156_0:=Option.some.inj (hv156_0.symm.trans hx156_0);rw [hv156_0] at ge156_0;have HL156_0:=Aside0.mk (show Kd.R (Kd.int .i64) 3 _ _ _ _ (rd_L15 t125 x191_5) from ge156_0);clear hv156_0 ge156_0 hcc156 hce156;have HR156_0:=Aside0.mk hi156_0;have HC156_0:=Aside0.mk hl156_0;clear hi156_0 hl156_0;replace p156:=eq_true p156;replace q156:=eq_true q156;have p157 : 0 ≤ (1 : Int):=(by omega);have q157 : 1 < ((rd_L15 t125 x191_5).length : Int):=of_decide_eq_true (q2_);obtain ⟨ad157,e157,hx157_0⟩:=Kd.at_int (by repeat (first | (with_reducible exact HR156_0.out) | (with_reducible refine Kd.C_alloc ?_ _) | (with_reducible refine Kd.C_drewN ?_ _) | (with_reducible refine Kd.C_drew ?_) | exact HR156_0.out)) 1 p157 q157;cases e157
                         (try simp only [show (1 : Int).toNat = 1 from rfl,Nat.reduceMul,Nat.reduceEqDiff,Go.Addr.add,↓reduceIte] at hx157_0)
                         have qi157 : (1 < (rd_L15 t125 x191_5).length) = True:=eq_true (by omega)
                         (try rw [show ((1 : Int)).toNat = 1 from rfl] at hx157_0)
                         replace p157:=eq_true p157;replace q157:=eq_true q157;go_wp2;go_roundg k5
                         case measure=>have:=HJ10.out;have:=HJ81.out;have:=HK3.out;have:=HK4.out;have:=HK5.out;omega
                         case rel=>exact ⟨(((rd (rd_L15 t125 x191_5) 1) == x184_4)),(wrap64 (x191_5 + 1)),(q1_),(q1_),H', ⟨by have:=HJ10.out;have:=HJ81.out;have:=HK3.out;have:=HK4.out;have:=HK5.out;omega⟩,⟨q7_⟩,⟨q9_⟩,⟨q10_⟩,⟨q16_⟩,⟨q15_⟩,⟨q17_⟩,⟨by (with_reducible repeat (first | apply Kd.R_alloc | apply Kd.R_drewN | apply Kd.R_drew));exact HO_182.out⟩,⟨by (with_reducible repeat (first | apply Kd.S_alloc | apply Kd.S_drewN | apply Kd.S_drew));exact HO_189.out⟩,⟨by (with_reducible repeat (first | refine blk_drewN ?_ _ | refine blk_drew ?_ | refine blk_alloc ?_ _));exact BK155.out⟩,⟨q32_⟩⟩
                        ·rw [if_neg c124] at H;exact absurd H (by simp)
                      ·rw [if_neg c122] at H;exact absurd H (by simp)
                     ·rw [if_neg c121] at H;exact absurd H (by simp)
                    ·rw [if_neg c120] at H;have c120b0 : decide (x191_5 < (t125.length : Int)) = false:=decide_eq_false c120;clear c120;obtain ⟨y158,hy158⟩ : ∃ y_ : List (S58),y_ = (([(⟨((rd_T58 t102 x184_4).f0),((rd_T58 t102 x184_4).f1),((rd_T58 t102 x184_4).f2)⟩ : S58)] : List (S58))):=⟨_,rfl⟩;replace H : ((impl_OnlyIn.f k5 y158 t107).bind fun bt161=>(if bt161.2 = true then (if ((decide ((bt161.1.length : Int) > 0)) != x30_5) = true then (some false) else (laws_FnMerges.l2 k5 t101 t102 t107 t114 t125 t129 t130 t102 (t102.length : Int) (wrap64 (x184_4 + 1)))) else (some false))) = some r:=by first | (rw [hy158];with_reducible exact H) | (have H2_:=(Option.bind_some _ _).symm.trans H;rw [hy158];with_reducible exact H2_) | (have H2_:=(Option.bind_some _ _).symm.trans H;with_reducible exact H2_) | with_reducible exact H | (rw [hy158];exact H) | exact H
                     have Ny158:=Aside0.mk hy158;clear hy158;replace H:=Option.bind_eq_some_iff.mp H;obtain ⟨⟨t161,t162⟩,A1250,H⟩:=H;(try dsimp only at H);have A125:=Aside0.mk A1250;clear A1250;by_cases c126 : t162 = true
                     ·subst c126;have H1 : (if ((decide ((t161.length : Int) > 0)) != x30_5) = true then (some false) else (laws_FnMerges.l2 k5 t101 t102 t107 t114 t125 t129 t130 t102 (t102.length : Int) (wrap64 (x184_4 + 1)))) = some r:=by rw [if_pos rfl] at H;exact H
                      clear H;have H:=H1;clear H1;by_cases c127 : ((decide ((t161.length : Int) > 0)) != x30_5) = true
                      ·rw [if_pos c127] at H;have c127b0 : ((decide ((t161.length : Int) > 0)) != x30_5) = true:=c127
                       (try (have c127b1 : decide ((decide ((t161.length : Int) > 0)) = x30_5) = false:=by simpa using c127))
                       (try (have c127b2 : ((decide ((t161.length : Int) > 0)) == x30_5) = false:=by simpa using c127))
                       (try (have c127b3 : ¬ ((decide ((t161.length : Int) > 0)) = x30_5):=by simpa using c127))
                       clear c127;exact absurd (Option.some.inj H) (by rw [ht_.out];decide)
                      ·rw [if_neg c127] at H;have c127b0 : ((decide ((t161.length : Int) > 0)) != x30_5) = false:=by simpa using c127
                       have c127b7 : (decide (0 < t161.length) == x30_5) = true:=by
                        have h:=c127b0;rw [show (decide ((t161.length : Int) > 0)) = decide (0 < t161.length) from decide_eq_decide.2 (by omega)] at h
                        revert h
                        cases decide (0 < t161.length) <;> cases x30_5 <;> decide
                       (try (have c127b1 : decide ((decide ((t161.length : Int) > 0)) = x30_5) = true:=by simpa using c127))
                       (try (have c127b2 : ((decide ((t161.length : Int) > 0)) == x30_5) = true:=by simpa using c127))
                       clear c127;have H' := Aside0.mk H;clear H;obtain ⟨hcz128_0,hcz128_1,hcz128_2,hfz128_0,hfz128_1,hfz128_2⟩:=bx3_ BK155.out;go_wp2_with (first | ((with_reducible refine gate_dst (N:=206) rfl ?_);(try (refine gate_guard (by rfl) ?_;dsimp only));refine Kd.R_lit k58 _ 58 ?hg (N:=206) ?hd (xs:=([(⟨((rd_T58 t102 x184_4).f0),((rd_T58 t102 x184_4).f1),((rd_T58 t102 x184_4).f2)⟩ : S58)] : List (S58))) (inner:=[.int .i64 ((rd_T58 t102 x184_4).f0),.int .i64 ((rd_T58 t102 x184_4).f1),.string ((rd_T58 t102 x184_4).f2)]) (ok:=fun _=>True) (okp:=fun _=>True) ?hr ?hp (fun _ hk=>hk) trivial (Below.refl _ _) (Nat.le_refl _) (by simp) ?_;(case hd=>rfl);(case hg=>rfl);(case hr=>first | (go_simp;done) | (go_simp;rfl));(case hp=>exact (Reps.c3 (show Kd.M k58 _ _ _ (⟨((rd_T58 t102 x184_4).f0),((rd_T58 t102 x184_4).f1),((rd_T58 t102 x184_4).f2)⟩ : S58) [.int .i64 ((rd_T58 t102 x184_4).f0),.int .i64 ((rd_T58 t102 x184_4).f1),.string ((rd_T58 t102 x184_4).f2)] from (k58_mkM _ _ _ (⟨((rd_T58 t102 x184_4).f0),((rd_T58 t102 x184_4).f1),((rd_T58 t102 x184_4).f2)⟩ : S58) )) (Reps.none _ _)));intro v159 w129 ho130 hb hg_ hnew_;clear hg_ hnew_;(first | rw [← Ny158.out] at ho130 | (simp only [Int.reduceToNat] at ho130;rw [← Ny158.out] at ho130));replace HO_15:=Aside0.mk (Kd.S_below (q15_) hb);replace HO_189:=Aside0.mk (Kd.S_below (by (with_reducible repeat (first | apply Kd.S_alloc | apply Kd.S_drewN | apply Kd.S_drew));exact HO_189.out) hb);have HO160:=Aside0.mk (Kd.R_lower (Kd.R_newB (Kd.R_new' (Kd.R_new' (Kd.R_new' (Kd.R_new' (Kd.R_new' (Kd.R_new' ho130 (Kd.R_lt (q7_))) (Kd.R_lt (q9_))) (Kd.R_lt (q10_))) (Kd.R_lt (q16_))) (Kd.R_lt (q17_))) (Kd.R_lt (by (with_reducible repeat (first | apply Kd.R_alloc | apply Kd.R_drewN | apply Kd.R_drew));exact HO_182.out))) (g:=gb155) (o:=.cells #[.int .i64 ((rd_T58 t102 x184_4).f0),.int .i64 ((rd_T58 t102 x184_4).f1),.string ((rd_T58 t102 x184_4).f2)] 58 (0,0)) (by (with_reducible repeat (first | refine blk_drewN ?_ _ | refine blk_drew ?_ | refine blk_alloc ?_ _));exact BK155.out)) (below_size (q32_)));replace HO_5:=rE_ HO_5 ho130 hb;replace HO_6:=rE_ HO_6 ho130 hb;replace HO_7:=rE_ HO_7 ho130 hb;replace HO_10:=rE_ HO_10 ho130 hb;replace HO_17:=rE_ HO_17 ho130 hb;replace HO_182:=rE_ HO_182 ho130 hb;replace BK155:=bkB_ BK155 hb;replace HB:=Aside0.mk (below_step (q32_) hb);clear hb ho130;obtain ⟨Ao131,co131,eo131⟩:=Kd.R_slice HO160.out;subst eo131;obtain ⟨Ao132,co132,eo132⟩:=Kd.R_slice HO_7.out;subst eo132) | ((with_reducible refine gate_callee (f:=98) rfl ?_);refine goesL_ (some 208) rfl rfl Try.func98 (by kernel_rfl) rfl #[.slice Ao131 y158.length co131,.slice Ao132 t107.length co132] rfl (q24_) ?_;(with_reducible refine (impl_OnlyIn.calls k5 _ _ y158 _ _ t107 t161 true _ ?side1 ?side2 ?side3 ?side4 A125.out).mono ?_);(case side1=>exact cX_ (Kd.R_reads' HO160.out).2.2);(case side2=>exact (Kd.R_reads' HO160.out).2.1);(case side3=>exact cX_ (Kd.R_reads' HO_7.out).2.2);(case side4=>exact (Kd.R_reads' HO_7.out).2.1);rintro e w133 ⟨v163,rfl,ho0,hb⟩;refine ⟨_,rfl,?_⟩;replace HO_15:=Aside0.mk (Kd.S_below (q15_) hb);replace HO_189:=Aside0.mk (Kd.S_below (by (with_reducible repeat (first | apply Kd.S_alloc | apply Kd.S_drewN | apply Kd.S_drew));exact HO_189.out) hb);have HO164:=Aside0.mk (Kd.R_lower (Kd.R_newB (Kd.R_new' (Kd.R_new' (Kd.R_new' (Kd.R_new' (Kd.R_new' (Kd.R_new' (Kd.R_new' ho0 (Kd.R_lt (q7_))) (Kd.R_lt (q9_))) (Kd.R_lt (q10_))) (Kd.R_lt (q16_))) (Kd.R_lt (q17_))) (Kd.R_lt (by (with_reducible repeat (first | apply Kd.R_alloc | apply Kd.R_drewN | apply Kd.R_drew));exact HO_182.out))) (Kd.R_lt (by (with_reducible repeat (first | apply Kd.R_alloc | apply Kd.R_drewN | apply Kd.R_drew));exact HO160.out))) (g:=gb155) (o:=.cells #[.int .i64 ((rd_T58 t102 x184_4).f0),.int .i64 ((rd_T58 t102 x184_4).f1),.string ((rd_T58 t102 x184_4).f2)] 58 (0,0)) (by (with_reducible repeat (first | refine blk_drewN ?_ _ | refine blk_drew ?_ | refine blk_alloc ?_ _));exact BK155.out)) (below_size (q32_)));replace HO_5:=rE_ HO_5 ho0 hb;replace HO_6:=rE_ HO_6 ho0 hb;replace HO_7:=rE_ HO_7 ho0 hb;replace HO_10:=rE_ HO_10 ho0 hb;replace HO_17:=rE_ HO_17 ho0 hb;replace HO_182:=rE_ HO_182 ho0 hb;replace HO160:=rE_ HO160 ho0 hb;replace BK155:=bkB_ BK155 hb;replace HB:=Aside0.mk (below_step (q32_) hb);(try clear hb);(try clear ho0);obtain ⟨Ao134,co134,eo134⟩:=Kd.R_slice HO164.out;subst eo134))
                       go_roundg k5
                       case measure=>have:=HJ10.out;have:=HJ81.out;have:=HK3.out;have:=HK4.out;have:=HK5.out;omega
                       case rel=>exact ⟨(wrap64 (x184_4 + 1)),(q1_),H', ⟨by have:=HJ10.out;have:=HJ81.out;have:=HK3.out;have:=HK4.out;have:=HK5.out;omega⟩,⟨by (with_reducible repeat (first | apply Kd.R_alloc | apply Kd.R_drewN | apply Kd.R_drew));exact Kd.R_mono HO_5.out (fun _ hk=>⟨hk.1.1.1,⟨hk.1.1.2.1,⟨hk.1.1.2.2.1,⟨hk.1.1.2.2.2.1,hk.1.1.2.2.2.2.1⟩⟩⟩⟩)⟩,⟨by (with_reducible repeat (first | apply Kd.R_alloc | apply Kd.R_drewN | apply Kd.R_drew));exact Kd.R_mono HO_6.out (fun _ hk=>⟨hk.1.1.1,⟨hk.1.1.2.1,⟨hk.1.1.2.2.1,hk.1.1.2.2.2.1⟩⟩⟩)⟩,⟨by (with_reducible repeat (first | apply Kd.R_alloc | apply Kd.R_drewN | apply Kd.R_drew));exact Kd.R_mono HO_7.out (fun _ hk=>⟨hk.1.1.1,⟨hk.1.1.2.1,⟨hk.1.1.2.2.1,⟨hk.1.1.2.2.2.1,hk.1.1.2.2.2.2.1⟩⟩⟩⟩)⟩,⟨by (with_reducible repeat (first | apply Kd.R_alloc | apply Kd.R_drewN | apply Kd.R_drew));exact Kd.R_mono HO_10.out (fun _ hk=>⟨hk.1.1.1,⟨hk.1.1.2.1,⟨hk.1.1.2.2.1,⟨hk.1.1.2.2.2.1,hk.1.1.2.2.2.2.1⟩⟩⟩⟩)⟩,⟨q15_⟩,⟨by (with_reducible repeat (first | apply Kd.R_alloc | apply Kd.R_drewN | apply Kd.R_drew));exact Kd.R_mono HO_17.out (fun _ hk=>⟨hk.1.1.1,⟨hk.1.1.2.1,⟨hk.1.1.2.2.1,⟨hk.1.1.2.2.2.1,hk.1.1.2.2.2.2.1⟩⟩⟩⟩)⟩,⟨by (with_reducible repeat (first | apply Kd.R_alloc | apply Kd.R_drewN | apply Kd.R_drew));exact Kd.R_mono HO_182.out (fun _ hk=>⟨hk.1.1.1,⟨hk.1.1.2.1,⟨hk.1.1.2.2.1,hk.1.1.2.2.2.1⟩⟩⟩)⟩,⟨q32_⟩⟩
                     ·replace c126:=Bool.eq_false_iff.mpr c126;subst c126;have H1 : (some false) = some r:=by rw [if_neg (show ¬ (false = true) by decide)] at H;exact H
                      clear H;have H:=H1;clear H1;exact absurd (Option.some.inj H) (by rw [ht_.out];decide)
                 ·rw [if_neg c116] at H;exact absurd H (by simp)
                ·rw [if_neg c115] at H;exact absurd H (by simp)
               ·rw [if_neg c114] at H;have c114b0 : decide (x184_4 < (t102.length : Int)) = false:=decide_eq_false c114;clear c114;replace H:=Option.bind_eq_some_iff.mp H;obtain ⟨⟨t165,t166,t167⟩,A1350,H⟩:=H;(try dsimp only at H);have A135:=Aside0.mk A1350;clear A1350;by_cases c136 : t167 = true
                ·subst c136;have H1 : ((laws_qNotes.f k4 t165 t114).bind fun t172=>(if t172 = true then (laws_FnMerges.j6 k4 t101 t129 t130) else (some false))) = some r:=by rw [if_pos rfl] at H;exact H
                 clear H;have H:=H1;clear H1;replace H:=Option.bind_eq_some_iff.mp H;obtain ⟨t172,A1370,H⟩:=H;(try dsimp only at H);have A137:=Aside0.mk A1370;clear A1370;by_cases c138 : t172 = true
                 ·subst c138;have H1 : (laws_FnMerges.j6 k4 t101 t129 t130) = some r:=by rw [if_pos rfl] at H;exact H
                  clear H;have H:=H1;clear H1;have H' := Aside0.mk H;clear H;go_wp2_with (first | ((with_reducible refine gate_callee (f:=91) rfl ?_);refine goesL_ (some 224) rfl rfl Try.func91 (by kernel_rfl) rfl #[.slice Ao14 t102.length co14,.slice Ao13 t101.length co13] rfl (q24_) ?_;(with_reducible refine (impl_MergeTiers.calls k4 _ _ t102 _ _ t101 t165 t166 true _ ?side1 ?side2 ?side3 ?side4 A135.out).mono ?_);(case side1=>exact cX_ (Kd.R_reads' HO_6.out).2.2);(case side2=>exact (Kd.R_reads' HO_6.out).2.1);(case side3=>exact cX_ (Kd.R_reads' HO_5.out).2.2);(case side4=>exact (Kd.R_reads' HO_5.out).2.1);rintro e w139 ⟨v168,v170,rfl,ho0,ho1,hb⟩;refine ⟨_,rfl,?_⟩;have HO169:=Aside0.mk (Kd.R_lower (Kd.R_new' (Kd.R_new' (Kd.R_new' (Kd.R_new' (Kd.R_new' (Kd.R_new' ho0 (Kd.R_lt (q7_))) (Kd.R_lt (q9_))) (Kd.R_lt (q10_))) (Kd.R_lt (q16_))) (Kd.R_lt (q17_))) (Kd.R_lt (by (with_reducible repeat (first | apply Kd.R_alloc | apply Kd.R_drewN | apply Kd.R_drew));exact HO_182.out))) (below_size (q22_)));replace HO_5:=rE_ HO_5 ho0 hb;replace HO_6:=rE_ HO_6 ho0 hb;replace HO_7:=rE_ HO_7 ho0 hb;replace HO_10:=rE_ HO_10 ho0 hb;replace HO_17:=rE_ HO_17 ho0 hb;replace HO_182:=rE_ HO_182 ho0 hb;have HO171:=Aside0.mk (Kd.S_lower (Kd.S_new' ho1 (Kd.S_lt (q15_))) (below_size (q22_)));replace HO_15:=Aside0.mk (Kd.S_elder' (q15_) (Kd.S_base ho1) hb);replace HB:=bS_ HB hb;(try clear hb);(try clear ho0);(try clear ho1);obtain ⟨Ao140,co140,eo140⟩:=Kd.R_slice HO169.out;subst eo140;obtain ⟨Ao141,co141,eo141⟩:=Kd.R_slice HO_10.out;subst eo141) | (go_at_call 45;(with_reducible refine (laws_qNotes.calls k4 _ _ t165 _ _ t114 true _ ?side1 ?side2 ?side3 ?side4 A137.out).mono ?_);(case side1=>exact cX_ (Kd.R_reads' HO169.out).2.2);(case side2=>exact (Kd.R_reads' HO169.out).2.1);(case side3=>exact cX_ (Kd.R_reads' HO_10.out).2.2);(case side4=>exact (Kd.R_reads' HO_10.out).2.1);rintro e w' ⟨rfl,⟨nd,rfl⟩⟩))
                  go_meet
                  case rel=>exact ⟨_,H', ⟨by have:=HJ10.out;have:=HJ81.out;have:=HK3.out;have:=HK4.out;first | omega | exact Nat.le_refl _⟩,⟨by (with_reducible repeat (first | apply Kd.R_alloc | apply Kd.R_drewN | apply Kd.R_drew));exact Kd.R_mono HO_5.out (fun _ hk=>hk.1.2.2.2.1)⟩,⟨by (with_reducible repeat (first | apply Kd.R_alloc | apply Kd.R_drewN | apply Kd.R_drew));exact Kd.R_mono HO_17.out (fun _ hk=>hk.1.1)⟩,⟨q22_⟩⟩
                 ·replace c138:=Bool.eq_false_iff.mpr c138;subst c138;have H1 : (some false) = some r:=by rw [if_neg (show ¬ (false = true) by decide)] at H;exact H
                  clear H;have H:=H1;clear H1;exact absurd (Option.some.inj H) (by rw [ht_.out];decide)
                ·replace c136:=Bool.eq_false_iff.mpr c136;subst c136;have H1 : (some false) = some r:=by rw [if_neg (show ¬ (false = true) by decide)] at H;exact H
                 clear H;have H:=H1;clear H1;exact absurd (Option.some.inj H) (by rw [ht_.out];decide)
      ·replace c81:=Bool.eq_false_iff.mpr c81;subst c81;have H1 : (laws_FnMerges.j6 kj10 t101 t129 t130) = some r:=by rw [if_neg (show ¬ (false = true) by decide)] at H;exact H
       clear H;have H:=H1;clear H1;have H' := Aside0.mk H;clear H;go_wp2;go_meet
       case rel=>exact ⟨_,H', ⟨by have:=HJ10.out;first | omega | exact Nat.le_refl _⟩,⟨by (with_reducible repeat (first | apply Kd.R_alloc | apply Kd.R_drewN | apply Kd.R_drew));exact Kd.R_mono HO_5.out (fun _ hk=>hk.2.2.2)⟩,⟨by (with_reducible repeat (first | apply Kd.R_alloc | apply Kd.R_drewN | apply Kd.R_drew));exact Kd.R_mono HO_17.out (fun _ hk=>hk.1)⟩,⟨q22_⟩⟩
     case rest=>as_aux_lemma =>
      clear HC80;try clear c1
      try clear c3
      try clear c3b0
      try clear c21
      try clear c21b0
      try clear c21b1
      try clear c21b2
      try clear c23
      try clear c25
      try clear c26
      try clear c26b0
      try clear c26b1
      try clear c26b2
      try clear c32
      try clear c33
      try clear c33b0
      try clear c33b1
      try clear c33b2
      try clear c41
      try clear c42
      try clear c79
      try clear c81
      try clear c84
      try clear c92
      try clear c93
      try clear c93b0
      try clear c94
      try clear c94b0
      try clear c95
      try clear c95b0
      try clear c99
      try clear c99b0
      try clear c100
      try clear c100b0
      try clear c101
      try clear c101b0
      try clear c102
      try clear c103
      try clear c103b0
      try clear c103b1
      try clear c105
      try clear c106
      try clear c106b0
      try clear c106b1
      try clear c106b2
      try clear c114
      try clear c114b0
      try clear c115
      try clear c115b0
      try clear c116
      try clear c116b0
      try clear c120
      try clear c120b0
      try clear c121
      try clear c121b0
      try clear c122
      try clear c122b0
      try clear c123
      try clear c124
      try clear c124b0
      try clear c124b1
      try clear c126
      try clear c127
      try clear c127b0
      try clear c127b1
      try clear c127b2
      try clear c136
      try clear c138
      try clear hcz107_0
      try clear hcz107_1
      try clear hcz107_2
      try clear hcz118_0
      try clear hcz118_1
      try clear hcz118_2
      try clear hcz128_0
      try clear hcz128_1
      try clear hcz128_2
      try clear hcz97_0
      try clear hcz97_1
      try clear hcz97_2
      try clear hfz107_0
      try clear hfz107_1
      try clear hfz107_2
      try clear hfz118_0
      try clear hfz118_1
      try clear hfz118_2
      try clear hfz128_0
      try clear hfz128_1
      try clear hfz128_2
      try clear hfz97_0
      try clear hfz97_1
      try clear hfz97_2
      try clear hx143_0
      try clear hx143_1
      try clear hx143_2
      try clear hx145_0
      try clear hx146_0
      try clear hx154_0
      try clear hx154_1
      try clear hx154_2
      try clear hx156_0
      try clear hx157_0
      try clear p143
      try clear p145
      try clear p146
      try clear p154
      try clear p156
      try clear p157
      try clear q143
      try clear q145
      try clear q146
      try clear q154
      try clear q156
      try clear q157
      obtain ⟨kq,HA,HJ79,HO_5,HO_17,HB⟩:=hcut;cases kq with
      | zero=>exact absurd HA.out (by simp [laws_FnMerges.j6])
      | succ kj79 =>
       have H:=HA.out;clear HA;simp only [laws_FnMerges.j6] at H;by_cases c142 : t130 = true
       ·subst c142;have H1 : ((impl_OnlyIn.f kj79 t101 t129).bind fun bt173=>(if bt173.2 = true then (if (bt173.1.length : Int) > 0 then (some false) else ((impl_IsTier.f kj79 t129).bind fun t177=>(if t177 = true then (some true) else (some false)))) else (some false))) = some r:=by rw [if_pos rfl] at H;exact H
        clear H;have H:=H1;clear H1;replace H:=Option.bind_eq_some_iff.mp H;obtain ⟨⟨t173,t174⟩,A1430,H⟩:=H;(try dsimp only at H);have A143:=Aside0.mk A1430;clear A1430;by_cases c144 : t174 = true
        ·subst c144;have H1 : (if (t173.length : Int) > 0 then (some false) else ((impl_IsTier.f kj79 t129).bind fun t177=>(if t177 = true then (some true) else (some false)))) = some r:=by rw [if_pos rfl] at H;exact H
         clear H;have H:=H1;clear H1;by_cases c145 : (t173.length : Int) > 0
         ·rw [if_pos c145] at H;have c145b0 : decide (0 < (t173.length : Int)) = true:=decide_eq_true c145;have c145b1 : decide (0 < t173.length) = true:=decide_eq_true (by omega);clear c145;exact absurd (Option.some.inj H) (by rw [ht_.out];decide)
         ·rw [if_neg c145] at H;have c145b0 : decide (0 < (t173.length : Int)) = false:=decide_eq_false c145;have c145b1 : decide (0 < t173.length) = false:=decide_eq_false (by omega);clear c145;replace H:=Option.bind_eq_some_iff.mp H;obtain ⟨t177,A1460,H⟩:=H;(try dsimp only at H);have A146:=Aside0.mk A1460;clear A1460;by_cases c147 : t177 = true
          ·subst c147;have H1 : (some true) = some r:=by rw [if_pos rfl] at H;exact H
           clear H;have H:=H1;clear H1;obtain rfl:=Option.some.inj H;obtain ⟨Ao148,co148,eo148⟩:=Kd.R_slice HO_17.out;subst eo148;go_wp2_with (first | ((with_reducible refine gate_callee (f:=98) rfl ?_);refine goesL_ (some 240) rfl rfl Try.func98 (by kernel_rfl) rfl #[.slice Ao13 t101.length co13,.slice Ao148 t129.length co148] rfl (q24_) ?_;(with_reducible refine (impl_OnlyIn.calls kj79 _ _ t101 _ _ t129 t173 true _ ?side1 ?side2 ?side3 ?side4 A143.out).mono ?_);(case side1=>exact cX_ (Kd.R_reads' HO_5.out).2.2);(case side2=>exact (Kd.R_reads' HO_5.out).2.1);(case side3=>exact cX_ (Kd.R_reads' HO_17.out).2.2);(case side4=>exact (Kd.R_reads' HO_17.out).2.1);rintro e w149 ⟨v175,rfl,ho0,hb⟩;refine ⟨_,rfl,?_⟩;have HO176:=Aside0.mk (Kd.R_lower (Kd.R_new' (Kd.R_new' ho0 (Kd.R_lt (q7_))) (Kd.R_lt (q17_))) (below_size (q22_)));replace HO_5:=rE_ HO_5 ho0 hb;replace HO_17:=rE_ HO_17 ho0 hb;replace HB:=bS_ HB hb;(try clear hb);(try clear ho0);obtain ⟨Ao150,co150,eo150⟩:=Kd.R_slice HO176.out;subst eo150) | (go_at_call 46;(with_reducible refine (impl_IsTier.calls kj79 _ _ t129 true _ ?side1 ?side2 A146.out).mono ?_);(case side1=>exact cX_ (Kd.R_reads' HO_17.out).2.2);(case side2=>exact (Kd.R_reads' HO_17.out).2.1);rintro e w151 ⟨rfl,hb⟩;replace HO_5:=rB_ HO_5 hb;replace HO_17:=rB_ HO_17 hb;replace HO176:=rB_ HO176 hb;replace HB:=bS_ HB hb;(try clear hb)))
           go_ret;exact ⟨q4_,q22_⟩
          ·replace c147:=Bool.eq_false_iff.mpr c147;subst c147;have H1 : (some false) = some r:=by rw [if_neg (show ¬ (false = true) by decide)] at H;exact H
           clear H;have H:=H1;clear H1;exact absurd (Option.some.inj H) (by rw [ht_.out];decide)
        ·replace c144:=Bool.eq_false_iff.mpr c144;subst c144;have H1 : (some false) = some r:=by rw [if_neg (show ¬ (false = true) by decide)] at H;exact H
         clear H;have H:=H1;clear H1;exact absurd (Option.some.inj H) (by rw [ht_.out];decide)
       ·replace c142:=Bool.eq_false_iff.mpr c142;subst c142;have H1 : (some true) = some r:=by rw [if_neg (show ¬ (false = true) by decide)] at H;exact H
        clear H;have H:=H1;clear H1;obtain rfl:=Option.some.inj H;go_wp2;go_ret;exact ⟨q4_,q22_⟩
def laws_FnMerges.Pure : Prop:=∀ (l0 : List Int) (l1 : List Int),((∀ a_,a_ ∈ l0 → (Lit.int .u8 a_).wf = true) ∧ l0.length * 1 ≤ 140737488351232) → ((∀ a_,a_ ∈ l1 → (Lit.int .u8 a_).wf = true) ∧ l1.length * 1 ≤ 140737488351232) → ∃ k,laws_FnMerges.f k l0 l1 = some true
theorem laws_FnMerges.walk (P : laws_FnMerges.Pure) (A0 : Option Addr) (c0 : Nat) (l0 : List Int) (A1 : Option Addr) (c1 : Nat) (l1 : List Int) (w : World) (hr0 : Kd.C (Kd.int .u8) w A0 l0.length l0) (hc0 : l0.length ≤ c0) (hr1 : Kd.C (Kd.int .u8) w A1 l1.length l1) (hc1 : l1.length ≤ c1) (b0 : ((∀ a_,a_ ∈ l0 → (Lit.int .u8 a_).wf = true) ∧ l0.length * 1 ≤ 140737488351232)) (b1 : ((∀ a_,a_ ∈ l1 → (Lit.int .u8 a_).wf = true) ∧ l1.length * 1 ≤ 140737488351232)) :
  Calls Try.prog 11 #[.slice A0 l0.length c0,.slice A1 l1.length c1] w fun e w' => e = .returned (.bool true) ∧ Below w.heap.size w w' := by
 obtain ⟨k,h⟩:=P l0 l1 b0 b1;refine (laws_FnMerges.calls k A0 c0 l0 A1 c1 l1 true w hr0 hc0 hr1 hc1 ⟨rfl⟩ h).mono ?_;rintro e w' ⟨rfl,hd⟩;exact ⟨rfl,hd⟩
end Go.Proofs.Ytgapcmmhbegdeaa.G
