-- Written by this session's own program over the kit's print (wip/tools/myprint.py); Lean checks it.
import Derived.Test.YtgapcmmhbegdeaaMBase
import Derived.Test.YtgapcmmhbegdeaaG0
import Derived.Test.YtgapcmmhbegdeaaG5
import Derived.Test.YtgapcmmhbegdeaaG12
import Derived.Test.YtgapcmmhbegdeaaG17
import Derived.Test.YtgapcmmhbegdeaaG18
import Derived.Test.YtgapcmmhbegdeaaG20
import Derived.Test.YtgapcmmhbegdeaaG21
import Derived.Test.YtgapcmmhbegdeaaG22
import Derived.Test.YtgapcmmhbegdeaaG94
namespace Go.Proofs.Ytgapcmmhbegdeaa.G
open Go.RowKit Go.Proofs.YtgapcmmhbegdeaaW.PrintWords Go.Proofs.YtgapcmmhbegdeaaW.PrintLast Go.Proofs.YtgapcmmhbegdeaaW.PrintMore
attribute [local go_sem] max2_int min2_int max_two min_two max_three min_three max_four min_four str_geq str_gtr str_leq   -- for this text's walks alone
set_option linter.unusedVariables false
set_option linter.unusedSimpArgs false
/-! ### laws_FnAgreement: function 9 -/
mutual
def laws_FnAgreement.j0 : Nat → List Int → List (S58) → List (S58) → Int → Int → Bool → Int → List (S96) → Int → Bool → ByteArray → ByteArray → Int → Bool → Option (Bool)
 | 0,_,_,_,_,_,_,_,_,_,_,_,_,_,_=>none
 | k + 1,x1,x5,x6,x7,x8,x10,x11,x15,x19,x24,x25,x26,x27,x193=>if x193 = true then (some false) else (if x10 = true then (laws_FnAgreement.l0 k x1 x5 x6 x7 x8 x11 x15 x19 x24 x25 x26 x27 x11 x15 (x15.length : Int) 0) else ((spec_DrawGlossAt.f k x1).bind fun bt162=>((impl_GlossAt.f k bt162.1 bt162.2).bind fun bt166=>((spec_GlossAt.f k bt162.1 bt162.2).bind fun bt168=>(if (bt166.2 == bt168.2) = true then (some (bt166.1.toList == bt168.1.toList)) else (some false))))))
def laws_FnAgreement.l0 : Nat → List Int → List (S58) → List (S58) → Int → Int → Int → List (S96) → Int → Bool → ByteArray → ByteArray → Int → Int → List (S96) → Int → Int → Option (Bool)
 | 0,_,_,_,_,_,_,_,_,_,_,_,_,_,_,_,_=>none
 | k + 1,x1,x5,x6,x7,x8,x11,x15,x19,x24,x25,x26,x27,x29,x196,x197,x198=>if x198 < x197 then (if 0 ≤ x198 then (if x198 < (x196.length : Int) then (if x198 > 0 then (if 0 ≤ (wrap64 (x198 - 1)) then (if (wrap64 (x198 - 1)) < (x15.length : Int) then (if ((rd_T96 x15 (wrap64 (x198 - 1))).f1) ≥ ((rd_T96 x196 x198).f0) then (some false) else (laws_FnAgreement.l0 k x1 x5 x6 x7 x8 x11 x15 x19 x24 x25 x26 x27 (wrap64 (x29 + (wrap64 (((rd_T96 x196 x198).f1) - ((rd_T96 x196 x198).f0))))) x196 x197 (wrap64 (x198 + 1)))) else (none)) else (none)) else (laws_FnAgreement.l0 k x1 x5 x6 x7 x8 x11 x15 x19 x24 x25 x26 x27 (wrap64 (x29 + (wrap64 (((rd_T96 x196 x198).f1) - ((rd_T96 x196 x198).f0))))) x196 x197 (wrap64 (x198 + 1)))) else (none)) else (none)) else ((impl_SameFrames.f k x6 x5 x7 x8).bind fun bt138=>((impl_AgreementBeyond.f k x5 x5 x7 x8).bind fun bt140=>(if x29 = (wrap64 (x8 - x7)) then (if bt138.2 = true then (if bt138.1 = x11 then (if bt140.2 = true then (if bt140.1 = 100 then (if x19 > 100 then (laws_FnAgreement.j2 k x1 x5 x7 x8 true) else (if x19 = 100 then (if x11 = (wrap64 (x8 - x7)) then (if x24 = true then (if x27 < 1 then (laws_FnAgreement.j2 k x1 x5 x7 x8 true) else (laws_FnAgreement.j2 k x1 x5 x7 x8 (x25.toList == x26.toList))) else (laws_FnAgreement.j2 k x1 x5 x7 x8 false)) else (laws_FnAgreement.j2 k x1 x5 x7 x8 true)) else (if x24 = true then (if x27 < 1 then (laws_FnAgreement.j2 k x1 x5 x7 x8 true) else (laws_FnAgreement.j2 k x1 x5 x7 x8 (x25.toList == x26.toList))) else (laws_FnAgreement.j2 k x1 x5 x7 x8 false)))) else (laws_FnAgreement.j2 k x1 x5 x7 x8 true)) else (laws_FnAgreement.j2 k x1 x5 x7 x8 true)) else (laws_FnAgreement.j2 k x1 x5 x7 x8 true)) else (laws_FnAgreement.j2 k x1 x5 x7 x8 true)) else (laws_FnAgreement.j2 k x1 x5 x7 x8 true))))
def laws_FnAgreement.j2 : Nat → List Int → List (S58) → Int → Int → Bool → Option (Bool)
 | 0,_,_,_,_,_=>none
 | k + 1,x1,x5,x7,x8,x288=>if x288 = true then (some false) else ((impl_FrameGlosses.f k x5 x7 x8).bind fun bt142=>((spec_FrameGlosses.f k x5 x7 x8).bind fun bt146=>(if bt142.2 = true then (if bt146.2 = true then ((laws_pSameTexts.f k bt142.1 bt146.1).bind fun t150=>(if t150 = true then (laws_FnAgreement.j3 k x1 x5 x7 bt146.1 ((bt146.1.length : Int) != (wrap64 (x8 - x7)))) else (laws_FnAgreement.j3 k x1 x5 x7 bt146.1 true))) else (laws_FnAgreement.j3 k x1 x5 x7 bt146.1 true)) else (laws_FnAgreement.j3 k x1 x5 x7 bt146.1 true))))
def laws_FnAgreement.j3 : Nat → List Int → List (S58) → Int → List ByteArray → Bool → Option (Bool)
 | 0,_,_,_,_,_=>none
 | k + 1,x1,x5,x7,x38,x322=>if x322 = true then (some false) else (laws_FnAgreement.l1 k x1 x5 x7 x38 (x38.length : Int) 0)
def laws_FnAgreement.l1 : Nat → List Int → List (S58) → Int → List ByteArray → Int → Int → Option (Bool)
 | 0,_,_,_,_,_,_=>none
 | k + 1,x1,x5,x7,x323,x324,x325=>if x325 < x324 then (if 0 ≤ x325 then (if x325 < (x323.length : Int) then ((impl_GlossAt.f k x5 (wrap64 (x7 + x325))).bind fun bt152=>(if bt152.2 = true then (if bt152.1.toList = (rdOf ByteArray.empty x323 x325).toList then (laws_FnAgreement.l1 k x1 x5 x7 x323 x324 (wrap64 (x325 + 1))) else (some false)) else (some false))) else (none)) else (none)) else ((spec_DrawGlossAt.f k x1).bind fun bt154=>((impl_GlossAt.f k bt154.1 bt154.2).bind fun bt158=>((spec_GlossAt.f k bt154.1 bt154.2).bind fun bt160=>(if (bt158.2 == bt160.2) = true then (some (bt158.1.toList == bt160.1.toList)) else (some false)))))
end
def laws_FnAgreement.f (k : Nat) (l0 : List Int) (l1 : List Int) : Option (Bool):=(laws_big.f l0 l1).bind fun t101=>(if t101 = true then (some true) else ((spec_DrawSameFrames.f k l0).bind fun bt102=>((impl_SameFrames.f k bt102.1 bt102.2.1 bt102.2.2.1 bt102.2.2.2).bind fun bt110=>((spec_SameFrames.f k bt102.1 bt102.2.1 bt102.2.2.1 bt102.2.2.2).bind fun bt112=>((impl_DisagreedSpans.f k bt102.1 bt102.2.1 bt102.2.2.1 bt102.2.2.2).bind fun bt114=>((spec_DisagreedSpans.f k bt102.1 bt102.2.1 bt102.2.2.1 bt102.2.2.2).bind fun bt118=>((impl_AgreementBeyond.f k bt102.1 bt102.2.1 bt102.2.2.1 bt102.2.2.2).bind fun bt122=>((spec_AgreementBeyond.f k bt102.1 bt102.2.1 bt102.2.2.1 bt102.2.2.2).bind fun bt124=>((impl_ConfusedGlosses.f k bt102.1 bt102.2.1 bt102.2.2.1 bt102.2.2.2).bind fun bt126=>((spec_ConfusedGlosses.f k bt102.1 bt102.2.1 bt102.2.2.1 bt102.2.2.2).bind fun bt130=>(if (bt110.2 != bt112.2) = true then (laws_FnAgreement.j0 k l1 bt102.1 bt102.2.1 bt102.2.2.1 bt102.2.2.2 bt110.2 bt112.1 bt118.1 bt124.1 bt126.2.2.2 bt130.1 bt130.2.1 bt130.2.2.1 true) else (if bt110.1 = bt112.1 then (if (bt114.2 != bt118.2) = true then (laws_FnAgreement.j0 k l1 bt102.1 bt102.2.1 bt102.2.2.1 bt102.2.2.2 bt110.2 bt112.1 bt118.1 bt124.1 bt126.2.2.2 bt130.1 bt130.2.1 bt130.2.2.1 true) else ((laws_pSameSpans.f k bt114.1 bt118.1).bind fun t134=>(if t134 = true then (if (bt122.2 != bt124.2) = true then (laws_FnAgreement.j0 k l1 bt102.1 bt102.2.1 bt102.2.2.1 bt102.2.2.2 bt110.2 bt112.1 bt118.1 bt124.1 bt126.2.2.2 bt130.1 bt130.2.1 bt130.2.2.1 true) else (if bt122.1 = bt124.1 then (if (bt126.2.2.2 != bt130.2.2.2) = true then (laws_FnAgreement.j0 k l1 bt102.1 bt102.2.1 bt102.2.2.1 bt102.2.2.2 bt110.2 bt112.1 bt118.1 bt124.1 bt126.2.2.2 bt130.1 bt130.2.1 bt130.2.2.1 true) else (if bt126.1.toList = bt130.1.toList then (if bt126.2.1.toList = bt130.2.1.toList then (if bt126.2.2.1 = bt130.2.2.1 then (if (bt114.2 != bt110.2) = true then (laws_FnAgreement.j0 k l1 bt102.1 bt102.2.1 bt102.2.2.1 bt102.2.2.2 bt110.2 bt112.1 bt118.1 bt124.1 bt126.2.2.2 bt130.1 bt130.2.1 bt130.2.2.1 true) else (if (bt122.2 != bt110.2) = true then (laws_FnAgreement.j0 k l1 bt102.1 bt102.2.1 bt102.2.2.1 bt102.2.2.2 bt110.2 bt112.1 bt118.1 bt124.1 bt126.2.2.2 bt130.1 bt130.2.1 bt130.2.2.1 true) else (if bt126.2.2.2 = true then (laws_FnAgreement.j0 k l1 bt102.1 bt102.2.1 bt102.2.2.1 bt102.2.2.2 bt110.2 bt112.1 bt118.1 bt124.1 bt126.2.2.2 bt130.1 bt130.2.1 bt130.2.2.1 (!bt110.2)) else (laws_FnAgreement.j0 k l1 bt102.1 bt102.2.1 bt102.2.2.1 bt102.2.2.2 bt110.2 bt112.1 bt118.1 bt124.1 bt126.2.2.2 bt130.1 bt130.2.1 bt130.2.2.1 false)))) else (laws_FnAgreement.j0 k l1 bt102.1 bt102.2.1 bt102.2.2.1 bt102.2.2.2 bt110.2 bt112.1 bt118.1 bt124.1 bt126.2.2.2 bt130.1 bt130.2.1 bt130.2.2.1 true)) else (laws_FnAgreement.j0 k l1 bt102.1 bt102.2.1 bt102.2.2.1 bt102.2.2.2 bt110.2 bt112.1 bt118.1 bt124.1 bt126.2.2.2 bt130.1 bt130.2.1 bt130.2.2.1 true)) else (laws_FnAgreement.j0 k l1 bt102.1 bt102.2.1 bt102.2.2.1 bt102.2.2.2 bt110.2 bt112.1 bt118.1 bt124.1 bt126.2.2.2 bt130.1 bt130.2.1 bt130.2.2.1 true))) else (laws_FnAgreement.j0 k l1 bt102.1 bt102.2.1 bt102.2.2.1 bt102.2.2.2 bt110.2 bt112.1 bt118.1 bt124.1 bt126.2.2.2 bt130.1 bt130.2.1 bt130.2.2.1 true))) else (laws_FnAgreement.j0 k l1 bt102.1 bt102.2.1 bt102.2.2.1 bt102.2.2.2 bt110.2 bt112.1 bt118.1 bt124.1 bt126.2.2.2 bt130.1 bt130.2.1 bt130.2.2.1 true)))) else (laws_FnAgreement.j0 k l1 bt102.1 bt102.2.1 bt102.2.2.1 bt102.2.2.2 bt110.2 bt112.1 bt118.1 bt124.1 bt126.2.2.2 bt130.1 bt130.2.1 bt130.2.2.1 true)))))))))))))
theorem laws_FnAgreement.j0_no {k : Nat} {y0 : _} {y1 : _} {y2 : _} {y3 : _} {y4 : _} {y5 : _} {y6 : _} {y7 : _} {y8 : _} {y9 : _} {y10 : _} {y11 : _} {y12 : _} {r : Bool} (h : laws_FnAgreement.j0 k y0 y1 y2 y3 y4 y5 y6 y7 y8 y9 y10 y11 y12 true = some r) (hr : r = true) : False:=by
 subst hr;cases k with
 | zero=>simp [laws_FnAgreement.j0] at h
 | succ k=>rw [laws_FnAgreement.j0.eq_2,if_pos rfl] at h;exact absurd (Option.some.inj h) (by decide)
theorem laws_FnAgreement.j2_no {k : Nat} {y0 : _} {y1 : _} {y2 : _} {y3 : _} {r : Bool} (h : laws_FnAgreement.j2 k y0 y1 y2 y3 true = some r) (hr : r = true) : False:=by
 subst hr;cases k with
 | zero=>simp [laws_FnAgreement.j2] at h
 | succ k=>rw [laws_FnAgreement.j2.eq_2,if_pos rfl] at h;exact absurd (Option.some.inj h) (by decide)
theorem laws_FnAgreement.j3_no {k : Nat} {y0 : _} {y1 : _} {y2 : _} {y3 : _} {r : Bool} (h : laws_FnAgreement.j3 k y0 y1 y2 y3 true = some r) (hr : r = true) : False:=by
 subst hr;cases k with
 | zero=>simp [laws_FnAgreement.j3] at h
 | succ k=>rw [laws_FnAgreement.j3.eq_2,if_pos rfl] at h;exact absurd (Option.some.inj h) (by decide)
set_option maxHeartbeats 8000000 in
set_option maxRecDepth 100000 in
theorem laws_FnAgreement.calls (k : Nat) (A0 : Option Addr) (c0 : Nat) (l0 : List Int) (A1 : Option Addr) (c1 : Nat) (l1 : List Int) (r : Bool) (w : World) (hr0 : Kd.C (Kd.int .u8) w A0 l0.length l0) (hc0 : l0.length ≤ c0) (hr1 : Kd.C (Kd.int .u8) w A1 l1.length l1) (hc1 : l1.length ≤ c1) (ht_ : Aside0 (r = true)) (h : laws_FnAgreement.f k l0 l1 = some r) :
  Calls Try.prog 9 #[.slice A0 l0.length c0,.slice A1 l1.length c1] w fun e w' => e = .returned (.bool r) ∧ Below w.heap.size w w' := by
 have hu96:=Try.underlying96;have HR0:=Aside0.mk hr0;have HC0:=Aside0.mk hc0;clear hr0 hc0;have HR1:=Aside0.mk hr1;have HC1:=Aside0.mk hc1;clear hr1 hc1;have HB:=Aside0.mk (Below.refl w.heap.size w);have H : ((laws_big.f l0 l1).bind fun t101=>(if t101 = true then (some true) else ((spec_DrawSameFrames.f k l0).bind fun bt102=>((impl_SameFrames.f k bt102.1 bt102.2.1 bt102.2.2.1 bt102.2.2.2).bind fun bt110=>((spec_SameFrames.f k bt102.1 bt102.2.1 bt102.2.2.1 bt102.2.2.2).bind fun bt112=>((impl_DisagreedSpans.f k bt102.1 bt102.2.1 bt102.2.2.1 bt102.2.2.2).bind fun bt114=>((spec_DisagreedSpans.f k bt102.1 bt102.2.1 bt102.2.2.1 bt102.2.2.2).bind fun bt118=>((impl_AgreementBeyond.f k bt102.1 bt102.2.1 bt102.2.2.1 bt102.2.2.2).bind fun bt122=>((spec_AgreementBeyond.f k bt102.1 bt102.2.1 bt102.2.2.1 bt102.2.2.2).bind fun bt124=>((impl_ConfusedGlosses.f k bt102.1 bt102.2.1 bt102.2.2.1 bt102.2.2.2).bind fun bt126=>((spec_ConfusedGlosses.f k bt102.1 bt102.2.1 bt102.2.2.1 bt102.2.2.2).bind fun bt130=>(if (bt110.2 != bt112.2) = true then (laws_FnAgreement.j0 k l1 bt102.1 bt102.2.1 bt102.2.2.1 bt102.2.2.2 bt110.2 bt112.1 bt118.1 bt124.1 bt126.2.2.2 bt130.1 bt130.2.1 bt130.2.2.1 true) else (if bt110.1 = bt112.1 then (if (bt114.2 != bt118.2) = true then (laws_FnAgreement.j0 k l1 bt102.1 bt102.2.1 bt102.2.2.1 bt102.2.2.2 bt110.2 bt112.1 bt118.1 bt124.1 bt126.2.2.2 bt130.1 bt130.2.1 bt130.2.2.1 true) else ((laws_pSameSpans.f k bt114.1 bt118.1).bind fun t134=>(if t134 = true then (if (bt122.2 != bt124.2) = true then (laws_FnAgreement.j0 k l1 bt102.1 bt102.2.1 bt102.2.2.1 bt102.2.2.2 bt110.2 bt112.1 bt118.1 bt124.1 bt126.2.2.2 bt130.1 bt130.2.1 bt130.2.2.1 true) else (if bt122.1 = bt124.1 then (if (bt126.2.2.2 != bt130.2.2.2) = true then (laws_FnAgreement.j0 k l1 bt102.1 bt102.2.1 bt102.2.2.1 bt102.2.2.2 bt110.2 bt112.1 bt118.1 bt124.1 bt126.2.2.2 bt130.1 bt130.2.1 bt130.2.2.1 true) else (if bt126.1.toList = bt130.1.toList then (if bt126.2.1.toList = bt130.2.1.toList then (if bt126.2.2.1 = bt130.2.2.1 then (if (bt114.2 != bt110.2) = true then (laws_FnAgreement.j0 k l1 bt102.1 bt102.2.1 bt102.2.2.1 bt102.2.2.2 bt110.2 bt112.1 bt118.1 bt124.1 bt126.2.2.2 bt130.1 bt130.2.1 bt130.2.2.1 true) else (if (bt122.2 != bt110.2) = true then (laws_FnAgreement.j0 k l1 bt102.1 bt102.2.1 bt102.2.2.1 bt102.2.2.2 bt110.2 bt112.1 bt118.1 bt124.1 bt126.2.2.2 bt130.1 bt130.2.1 bt130.2.2.1 true) else (if bt126.2.2.2 = true then (laws_FnAgreement.j0 k l1 bt102.1 bt102.2.1 bt102.2.2.1 bt102.2.2.2 bt110.2 bt112.1 bt118.1 bt124.1 bt126.2.2.2 bt130.1 bt130.2.1 bt130.2.2.1 (!bt110.2)) else (laws_FnAgreement.j0 k l1 bt102.1 bt102.2.1 bt102.2.2.1 bt102.2.2.2 bt110.2 bt112.1 bt118.1 bt124.1 bt126.2.2.2 bt130.1 bt130.2.1 bt130.2.2.1 false)))) else (laws_FnAgreement.j0 k l1 bt102.1 bt102.2.1 bt102.2.2.1 bt102.2.2.2 bt110.2 bt112.1 bt118.1 bt124.1 bt126.2.2.2 bt130.1 bt130.2.1 bt130.2.2.1 true)) else (laws_FnAgreement.j0 k l1 bt102.1 bt102.2.1 bt102.2.2.1 bt102.2.2.2 bt110.2 bt112.1 bt118.1 bt124.1 bt126.2.2.2 bt130.1 bt130.2.1 bt130.2.2.1 true)) else (laws_FnAgreement.j0 k l1 bt102.1 bt102.2.1 bt102.2.2.1 bt102.2.2.2 bt110.2 bt112.1 bt118.1 bt124.1 bt126.2.2.2 bt130.1 bt130.2.1 bt130.2.2.1 true))) else (laws_FnAgreement.j0 k l1 bt102.1 bt102.2.1 bt102.2.2.1 bt102.2.2.2 bt110.2 bt112.1 bt118.1 bt124.1 bt126.2.2.2 bt130.1 bt130.2.1 bt130.2.2.1 true))) else (laws_FnAgreement.j0 k l1 bt102.1 bt102.2.1 bt102.2.2.1 bt102.2.2.2 bt110.2 bt112.1 bt118.1 bt124.1 bt126.2.2.2 bt130.1 bt130.2.1 bt130.2.2.1 true)))) else (laws_FnAgreement.j0 k l1 bt102.1 bt102.2.1 bt102.2.2.1 bt102.2.2.2 bt110.2 bt112.1 bt118.1 bt124.1 bt126.2.2.2 bt130.1 bt130.2.1 bt130.2.2.1 true)))))))))))))) = some r:=h;clear h;replace H:=Option.bind_eq_some_iff.mp H;obtain ⟨t101,A30,H⟩:=H;(try dsimp only at H);have A3:=Aside0.mk A30;clear A30;by_cases c4 : t101 = true
 ·subst c4;have H1 : (some true) = some r:=by rw [if_pos rfl] at H;exact H
  clear H;have H:=H1;clear H1;obtain rfl:=Option.some.inj H;go_enter Try.func9,Try.ntmps9
  go_wp2_with (first | (go_at_call 47;(with_reducible refine (laws_big.calls _ _ l0 _ _ l1 true _ ?side1 ?side2 ?side3 ?side4 A3.out).mono ?_);(case side1=>exact cX_ HR0.out);(case side2=>exact HC0.out);(case side3=>exact cX_ HR1.out);(case side4=>exact HC1.out);rintro e w' ⟨rfl,⟨nd,rfl⟩⟩;(try first | exact ⟨rfl,_,World.drewN_drewN _ _ _⟩ | exact ⟨rfl,_,Eq.trans (World.drewN_drewN _ _ _) (congrArg (World.drewN _) (Nat.add_assoc _ _ _))⟩)))
  repeat (go_quiet (first | (go_at_call 47;(with_reducible refine (laws_big.calls _ _ l0 _ _ l1 true _ ?side1 ?side2 ?side3 ?side4 A3.out).mono ?_);(case side1=>exact cX_ HR0.out);(case side2=>exact HC0.out);(case side3=>exact cX_ HR1.out);(case side4=>exact HC1.out);rintro e w' ⟨rfl,⟨nd,rfl⟩⟩;(try first | exact ⟨rfl,_,World.drewN_drewN _ _ _⟩ | exact ⟨rfl,_,Eq.trans (World.drewN_drewN _ _ _) (congrArg (World.drewN _) (Nat.add_assoc _ _ _))⟩)));try go_wp2_with (first | (go_at_call 47;(with_reducible refine (laws_big.calls _ _ l0 _ _ l1 true _ ?side1 ?side2 ?side3 ?side4 A3.out).mono ?_);(case side1=>exact cX_ HR0.out);(case side2=>exact HC0.out);(case side3=>exact cX_ HR1.out);(case side4=>exact HC1.out);rintro e w' ⟨rfl,⟨nd,rfl⟩⟩;(try first | exact ⟨rfl,_,World.drewN_drewN _ _ _⟩ | exact ⟨rfl,_,Eq.trans (World.drewN_drewN _ _ _) (congrArg (World.drewN _) (Nat.add_assoc _ _ _))⟩))))
  go_ret;exact ⟨q4_,q19_⟩
 ·replace c4:=Bool.eq_false_iff.mpr c4;subst c4;have H1 : ((spec_DrawSameFrames.f k l0).bind fun bt102=>((impl_SameFrames.f k bt102.1 bt102.2.1 bt102.2.2.1 bt102.2.2.2).bind fun bt110=>((spec_SameFrames.f k bt102.1 bt102.2.1 bt102.2.2.1 bt102.2.2.2).bind fun bt112=>((impl_DisagreedSpans.f k bt102.1 bt102.2.1 bt102.2.2.1 bt102.2.2.2).bind fun bt114=>((spec_DisagreedSpans.f k bt102.1 bt102.2.1 bt102.2.2.1 bt102.2.2.2).bind fun bt118=>((impl_AgreementBeyond.f k bt102.1 bt102.2.1 bt102.2.2.1 bt102.2.2.2).bind fun bt122=>((spec_AgreementBeyond.f k bt102.1 bt102.2.1 bt102.2.2.1 bt102.2.2.2).bind fun bt124=>((impl_ConfusedGlosses.f k bt102.1 bt102.2.1 bt102.2.2.1 bt102.2.2.2).bind fun bt126=>((spec_ConfusedGlosses.f k bt102.1 bt102.2.1 bt102.2.2.1 bt102.2.2.2).bind fun bt130=>(if (bt110.2 != bt112.2) = true then (laws_FnAgreement.j0 k l1 bt102.1 bt102.2.1 bt102.2.2.1 bt102.2.2.2 bt110.2 bt112.1 bt118.1 bt124.1 bt126.2.2.2 bt130.1 bt130.2.1 bt130.2.2.1 true) else (if bt110.1 = bt112.1 then (if (bt114.2 != bt118.2) = true then (laws_FnAgreement.j0 k l1 bt102.1 bt102.2.1 bt102.2.2.1 bt102.2.2.2 bt110.2 bt112.1 bt118.1 bt124.1 bt126.2.2.2 bt130.1 bt130.2.1 bt130.2.2.1 true) else ((laws_pSameSpans.f k bt114.1 bt118.1).bind fun t134=>(if t134 = true then (if (bt122.2 != bt124.2) = true then (laws_FnAgreement.j0 k l1 bt102.1 bt102.2.1 bt102.2.2.1 bt102.2.2.2 bt110.2 bt112.1 bt118.1 bt124.1 bt126.2.2.2 bt130.1 bt130.2.1 bt130.2.2.1 true) else (if bt122.1 = bt124.1 then (if (bt126.2.2.2 != bt130.2.2.2) = true then (laws_FnAgreement.j0 k l1 bt102.1 bt102.2.1 bt102.2.2.1 bt102.2.2.2 bt110.2 bt112.1 bt118.1 bt124.1 bt126.2.2.2 bt130.1 bt130.2.1 bt130.2.2.1 true) else (if bt126.1.toList = bt130.1.toList then (if bt126.2.1.toList = bt130.2.1.toList then (if bt126.2.2.1 = bt130.2.2.1 then (if (bt114.2 != bt110.2) = true then (laws_FnAgreement.j0 k l1 bt102.1 bt102.2.1 bt102.2.2.1 bt102.2.2.2 bt110.2 bt112.1 bt118.1 bt124.1 bt126.2.2.2 bt130.1 bt130.2.1 bt130.2.2.1 true) else (if (bt122.2 != bt110.2) = true then (laws_FnAgreement.j0 k l1 bt102.1 bt102.2.1 bt102.2.2.1 bt102.2.2.2 bt110.2 bt112.1 bt118.1 bt124.1 bt126.2.2.2 bt130.1 bt130.2.1 bt130.2.2.1 true) else (if bt126.2.2.2 = true then (laws_FnAgreement.j0 k l1 bt102.1 bt102.2.1 bt102.2.2.1 bt102.2.2.2 bt110.2 bt112.1 bt118.1 bt124.1 bt126.2.2.2 bt130.1 bt130.2.1 bt130.2.2.1 (!bt110.2)) else (laws_FnAgreement.j0 k l1 bt102.1 bt102.2.1 bt102.2.2.1 bt102.2.2.2 bt110.2 bt112.1 bt118.1 bt124.1 bt126.2.2.2 bt130.1 bt130.2.1 bt130.2.2.1 false)))) else (laws_FnAgreement.j0 k l1 bt102.1 bt102.2.1 bt102.2.2.1 bt102.2.2.2 bt110.2 bt112.1 bt118.1 bt124.1 bt126.2.2.2 bt130.1 bt130.2.1 bt130.2.2.1 true)) else (laws_FnAgreement.j0 k l1 bt102.1 bt102.2.1 bt102.2.2.1 bt102.2.2.2 bt110.2 bt112.1 bt118.1 bt124.1 bt126.2.2.2 bt130.1 bt130.2.1 bt130.2.2.1 true)) else (laws_FnAgreement.j0 k l1 bt102.1 bt102.2.1 bt102.2.2.1 bt102.2.2.2 bt110.2 bt112.1 bt118.1 bt124.1 bt126.2.2.2 bt130.1 bt130.2.1 bt130.2.2.1 true))) else (laws_FnAgreement.j0 k l1 bt102.1 bt102.2.1 bt102.2.2.1 bt102.2.2.2 bt110.2 bt112.1 bt118.1 bt124.1 bt126.2.2.2 bt130.1 bt130.2.1 bt130.2.2.1 true))) else (laws_FnAgreement.j0 k l1 bt102.1 bt102.2.1 bt102.2.2.1 bt102.2.2.2 bt110.2 bt112.1 bt118.1 bt124.1 bt126.2.2.2 bt130.1 bt130.2.1 bt130.2.2.1 true)))) else (laws_FnAgreement.j0 k l1 bt102.1 bt102.2.1 bt102.2.2.1 bt102.2.2.2 bt110.2 bt112.1 bt118.1 bt124.1 bt126.2.2.2 bt130.1 bt130.2.1 bt130.2.2.1 true)))))))))))) = some r:=by rw [if_neg (show ¬ (false = true) by decide)] at H;exact H
  clear H;have H:=H1;clear H1;replace H:=Option.bind_eq_some_iff.mp H;obtain ⟨⟨t102,t103,t104,t105⟩,A50,H⟩:=H;(try dsimp only at H);have A5:=Aside0.mk A50;clear A50;replace H:=Option.bind_eq_some_iff.mp H;obtain ⟨⟨t110,t111⟩,A60,H⟩:=H;(try dsimp only at H);have A6:=Aside0.mk A60;clear A60;replace H:=Option.bind_eq_some_iff.mp H;obtain ⟨⟨t112,t113⟩,A70,H⟩:=H;(try dsimp only at H);have A7:=Aside0.mk A70;clear A70;replace H:=Option.bind_eq_some_iff.mp H;obtain ⟨⟨t114,t115⟩,A80,H⟩:=H;(try dsimp only at H);have A8:=Aside0.mk A80;clear A80;replace H:=Option.bind_eq_some_iff.mp H;obtain ⟨⟨t118,t119⟩,A90,H⟩:=H;(try dsimp only at H);have A9:=Aside0.mk A90;clear A90;replace H:=Option.bind_eq_some_iff.mp H;obtain ⟨⟨t122,t123⟩,A100,H⟩:=H;(try dsimp only at H);have A10:=Aside0.mk A100;clear A100;replace H:=Option.bind_eq_some_iff.mp H;obtain ⟨⟨t124,t125⟩,A110,H⟩:=H;(try dsimp only at H);have A11:=Aside0.mk A110;clear A110;replace H:=Option.bind_eq_some_iff.mp H;obtain ⟨⟨t126,t127,t128,t129⟩,A120,H⟩:=H;(try dsimp only at H);have A12:=Aside0.mk A120;clear A120;replace H:=Option.bind_eq_some_iff.mp H;obtain ⟨⟨t130,t131,t132,t133⟩,A130,H⟩:=H;(try dsimp only at H);have A13:=Aside0.mk A130;clear A130;have HC14:=Aside0.mk H;clear H;go_enter Try.func9,Try.ntmps9
  go_upto_region 12 with (first | (go_at_call 47;(with_reducible refine (laws_big.calls _ _ l0 _ _ l1 false _ ?side1 ?side2 ?side3 ?side4 A3.out).mono ?_);(case side1=>exact cX_ HR0.out);(case side2=>exact HC0.out);(case side3=>exact cX_ HR1.out);(case side4=>exact HC1.out);rintro e w' ⟨rfl,⟨nd,rfl⟩⟩;(try first | exact ⟨rfl,_,World.drewN_drewN _ _ _⟩ | exact ⟨rfl,_,Eq.trans (World.drewN_drewN _ _ _) (congrArg (World.drewN _) (Nat.add_assoc _ _ _))⟩)) | (go_at_call 68;(with_reducible refine (spec_DrawSameFrames.calls k _ _ l0 t102 t103 t104 t105 _ ?side1 ?side2 A5.out).mono ?_);(case side1=>exact cX_ HR0.out);(case side2=>exact HC0.out);rintro e w15 ⟨v106,v108,rfl,ho0,ho1,hb⟩;have HO107:=Aside0.mk (Kd.R_lower ho0 (below_size (q19_)));have HO109:=Aside0.mk (Kd.Q_lower ho1 (below_size (q19_)));replace HB:=bS_ HB hb;(try clear hb);(try clear ho0);(try clear ho1);obtain ⟨Ao16,co16,eo16⟩:=Kd.R_slice HO107.out;subst eo16;obtain ⟨Ao17,co17,eo17,_⟩:=Kd.Q_slice HO109.out;subst eo17) | (go_at_call 69;(with_reducible refine (impl_SameFrames.calls k _ _ t102 _ _ t103 t104 t105 t110 t111 _ ?side1 ?side2 ?side3 ?side4 A6.out).mono ?_);(case side1=>exact cX_ (Kd.R_reads' HO107.out).2.2);(case side2=>exact (Kd.R_reads' HO107.out).2.1);(case side3=>exact cX_ (Kd.Q_reads' HO109.out).2.2);(case side4=>exact (Kd.Q_reads' HO109.out).2.1);rintro e w18 ⟨rfl,hb⟩;replace HO107:=rB_ HO107 hb;replace HO109:=Aside0.mk (Kd.Q_below (q15_) hb);replace HB:=bS_ HB hb;(try clear hb)) | (go_at_call 70;(with_reducible refine (spec_SameFrames.calls k _ _ t102 _ _ t103 t104 t105 t112 t113 _ ?side1 ?side2 ?side3 ?side4 A7.out).mono ?_);(case side1=>exact cX_ (Kd.R_reads' HO107.out).2.2);(case side2=>exact (Kd.R_reads' HO107.out).2.1);(case side3=>exact cX_ (Kd.Q_reads' HO109.out).2.2);(case side4=>exact (Kd.Q_reads' HO109.out).2.1);rintro e w19 ⟨rfl,hb⟩;replace HO107:=rB_ HO107 hb;replace HO109:=Aside0.mk (Kd.Q_below (q15_) hb);replace HB:=bS_ HB hb;(try clear hb)) | (go_at_call 71;(with_reducible refine (impl_DisagreedSpans.calls k _ _ t102 _ _ t103 t104 t105 t114 t115 _ ?side1 ?side2 ?side3 ?side4 A8.out).mono ?_);(case side1=>exact cX_ (Kd.R_reads' HO107.out).2.2);(case side2=>exact (Kd.R_reads' HO107.out).2.1);(case side3=>exact cX_ (Kd.Q_reads' HO109.out).2.2);(case side4=>exact (Kd.Q_reads' HO109.out).2.1);rintro e w20 ⟨v116,rfl,ho0,hb⟩;replace HO107:=rB_ HO107 hb;replace HO109:=Aside0.mk (Kd.Q_below (q15_) hb);have HO117:=Aside0.mk (Kd.R_lower ho0 (below_size (q19_)));replace HB:=bS_ HB hb;(try clear hb);(try clear ho0)) | (go_at_call 72;(with_reducible refine (spec_DisagreedSpans.calls k _ _ t102 _ _ t103 t104 t105 t118 t119 _ ?side1 ?side2 ?side3 ?side4 A9.out).mono ?_);(case side1=>exact cX_ (Kd.R_reads' HO107.out).2.2);(case side2=>exact (Kd.R_reads' HO107.out).2.1);(case side3=>exact cX_ (Kd.Q_reads' HO109.out).2.2);(case side4=>exact (Kd.Q_reads' HO109.out).2.1);rintro e w21 ⟨v120,rfl,ho0,hb⟩;replace HO107:=rB_ HO107 hb;replace HO109:=Aside0.mk (Kd.Q_below (q15_) hb);have HO121:=Aside0.mk (Kd.R_lower (Kd.R_new' ho0 (Kd.R_lt (by (with_reducible repeat (first | apply Kd.R_alloc | apply Kd.R_drewN | apply Kd.R_drew));exact HO117.out))) (below_size (q19_)));replace HO117:=rE_ HO117 ho0 hb;replace HB:=bS_ HB hb;(try clear hb);(try clear ho0)) | (go_at_call 73;(with_reducible refine (impl_AgreementBeyond.calls k _ _ t102 _ _ t103 t104 t105 t122 t123 _ ?side1 ?side2 ?side3 ?side4 A10.out).mono ?_);(case side1=>exact cX_ (Kd.R_reads' HO107.out).2.2);(case side2=>exact (Kd.R_reads' HO107.out).2.1);(case side3=>exact cX_ (Kd.Q_reads' HO109.out).2.2);(case side4=>exact (Kd.Q_reads' HO109.out).2.1);rintro e w22 ⟨rfl,hb⟩;replace HO107:=rB_ HO107 hb;replace HO109:=Aside0.mk (Kd.Q_below (q15_) hb);replace HO117:=rB_ HO117 hb;replace HO121:=rB_ HO121 hb;replace HB:=bS_ HB hb;(try clear hb)) | (go_at_call 74;(with_reducible refine (spec_AgreementBeyond.calls k _ _ t102 _ _ t103 t104 t105 t124 t125 _ ?side1 ?side2 ?side3 ?side4 A11.out).mono ?_);(case side1=>exact cX_ (Kd.R_reads' HO107.out).2.2);(case side2=>exact (Kd.R_reads' HO107.out).2.1);(case side3=>exact cX_ (Kd.Q_reads' HO109.out).2.2);(case side4=>exact (Kd.Q_reads' HO109.out).2.1);rintro e w23 ⟨rfl,hb⟩;replace HO107:=rB_ HO107 hb;replace HO109:=Aside0.mk (Kd.Q_below (q15_) hb);replace HO117:=rB_ HO117 hb;replace HO121:=rB_ HO121 hb;replace HB:=bS_ HB hb;(try clear hb)) | (go_at_call 27;(with_reducible refine (impl_ConfusedGlosses.calls k _ _ t102 _ _ t103 t104 t105 t126 t127 t128 t129 _ ?side1 ?side2 ?side3 ?side4 A12.out).mono ?_);(case side1=>exact cX_ (Kd.R_reads' HO107.out).2.2);(case side2=>exact (Kd.R_reads' HO107.out).2.1);(case side3=>exact cX_ (Kd.Q_reads' HO109.out).2.2);(case side4=>exact (Kd.Q_reads' HO109.out).2.1);rintro e w24 ⟨rfl,hb⟩;replace HO107:=rB_ HO107 hb;replace HO109:=Aside0.mk (Kd.Q_below (q15_) hb);replace HO117:=rB_ HO117 hb;replace HO121:=rB_ HO121 hb;replace HB:=bS_ HB hb;(try clear hb)) | (go_at_call 25;(with_reducible refine (spec_ConfusedGlosses.calls k _ _ t102 _ _ t103 t104 t105 t130 t131 t132 t133 _ ?side1 ?side2 ?side3 ?side4 A13.out).mono ?_);(case side1=>exact cX_ (Kd.R_reads' HO107.out).2.2);(case side2=>exact (Kd.R_reads' HO107.out).2.1);(case side3=>exact cX_ (Kd.Q_reads' HO109.out).2.2);(case side4=>exact (Kd.Q_reads' HO109.out).2.1);rintro e w25 ⟨rfl,hb⟩;replace HO107:=rB_ HO107 hb;replace HO109:=Aside0.mk (Kd.Q_below (q15_) hb);replace HO117:=rB_ HO117 hb;replace HO121:=rB_ HO121 hb;replace HB:=bS_ HB hb;(try clear hb)))
  repeat (go_quiet (first | (go_at_call 47;(with_reducible refine (laws_big.calls _ _ l0 _ _ l1 false _ ?side1 ?side2 ?side3 ?side4 A3.out).mono ?_);(case side1=>exact cX_ HR0.out);(case side2=>exact HC0.out);(case side3=>exact cX_ HR1.out);(case side4=>exact HC1.out);rintro e w' ⟨rfl,⟨nd,rfl⟩⟩;(try first | exact ⟨rfl,_,World.drewN_drewN _ _ _⟩ | exact ⟨rfl,_,Eq.trans (World.drewN_drewN _ _ _) (congrArg (World.drewN _) (Nat.add_assoc _ _ _))⟩)) | (go_at_call 68;(with_reducible refine (spec_DrawSameFrames.calls k _ _ l0 t102 t103 t104 t105 _ ?side1 ?side2 A5.out).mono ?_);(case side1=>exact cX_ HR0.out);(case side2=>exact HC0.out);rintro e w15 ⟨v106,v108,rfl,ho0,ho1,hb⟩;have HO107:=Aside0.mk (Kd.R_lower ho0 (below_size (q19_)));have HO109:=Aside0.mk (Kd.Q_lower ho1 (below_size (q19_)));replace HB:=bS_ HB hb;(try clear hb);(try clear ho0);(try clear ho1);obtain ⟨Ao16,co16,eo16⟩:=Kd.R_slice HO107.out;subst eo16;obtain ⟨Ao17,co17,eo17,_⟩:=Kd.Q_slice HO109.out;subst eo17) | (go_at_call 69;(with_reducible refine (impl_SameFrames.calls k _ _ t102 _ _ t103 t104 t105 t110 t111 _ ?side1 ?side2 ?side3 ?side4 A6.out).mono ?_);(case side1=>exact cX_ (Kd.R_reads' HO107.out).2.2);(case side2=>exact (Kd.R_reads' HO107.out).2.1);(case side3=>exact cX_ (Kd.Q_reads' HO109.out).2.2);(case side4=>exact (Kd.Q_reads' HO109.out).2.1);rintro e w18 ⟨rfl,hb⟩;replace HO107:=rB_ HO107 hb;replace HO109:=Aside0.mk (Kd.Q_below (q15_) hb);replace HB:=bS_ HB hb;(try clear hb)) | (go_at_call 70;(with_reducible refine (spec_SameFrames.calls k _ _ t102 _ _ t103 t104 t105 t112 t113 _ ?side1 ?side2 ?side3 ?side4 A7.out).mono ?_);(case side1=>exact cX_ (Kd.R_reads' HO107.out).2.2);(case side2=>exact (Kd.R_reads' HO107.out).2.1);(case side3=>exact cX_ (Kd.Q_reads' HO109.out).2.2);(case side4=>exact (Kd.Q_reads' HO109.out).2.1);rintro e w19 ⟨rfl,hb⟩;replace HO107:=rB_ HO107 hb;replace HO109:=Aside0.mk (Kd.Q_below (q15_) hb);replace HB:=bS_ HB hb;(try clear hb)) | (go_at_call 71;(with_reducible refine (impl_DisagreedSpans.calls k _ _ t102 _ _ t103 t104 t105 t114 t115 _ ?side1 ?side2 ?side3 ?side4 A8.out).mono ?_);(case side1=>exact cX_ (Kd.R_reads' HO107.out).2.2);(case side2=>exact (Kd.R_reads' HO107.out).2.1);(case side3=>exact cX_ (Kd.Q_reads' HO109.out).2.2);(case side4=>exact (Kd.Q_reads' HO109.out).2.1);rintro e w20 ⟨v116,rfl,ho0,hb⟩;replace HO107:=rB_ HO107 hb;replace HO109:=Aside0.mk (Kd.Q_below (q15_) hb);have HO117:=Aside0.mk (Kd.R_lower ho0 (below_size (q19_)));replace HB:=bS_ HB hb;(try clear hb);(try clear ho0)) | (go_at_call 72;(with_reducible refine (spec_DisagreedSpans.calls k _ _ t102 _ _ t103 t104 t105 t118 t119 _ ?side1 ?side2 ?side3 ?side4 A9.out).mono ?_);(case side1=>exact cX_ (Kd.R_reads' HO107.out).2.2);(case side2=>exact (Kd.R_reads' HO107.out).2.1);(case side3=>exact cX_ (Kd.Q_reads' HO109.out).2.2);(case side4=>exact (Kd.Q_reads' HO109.out).2.1);rintro e w21 ⟨v120,rfl,ho0,hb⟩;replace HO107:=rB_ HO107 hb;replace HO109:=Aside0.mk (Kd.Q_below (q15_) hb);have HO121:=Aside0.mk (Kd.R_lower (Kd.R_new' ho0 (Kd.R_lt (by (with_reducible repeat (first | apply Kd.R_alloc | apply Kd.R_drewN | apply Kd.R_drew));exact HO117.out))) (below_size (q19_)));replace HO117:=rE_ HO117 ho0 hb;replace HB:=bS_ HB hb;(try clear hb);(try clear ho0)) | (go_at_call 73;(with_reducible refine (impl_AgreementBeyond.calls k _ _ t102 _ _ t103 t104 t105 t122 t123 _ ?side1 ?side2 ?side3 ?side4 A10.out).mono ?_);(case side1=>exact cX_ (Kd.R_reads' HO107.out).2.2);(case side2=>exact (Kd.R_reads' HO107.out).2.1);(case side3=>exact cX_ (Kd.Q_reads' HO109.out).2.2);(case side4=>exact (Kd.Q_reads' HO109.out).2.1);rintro e w22 ⟨rfl,hb⟩;replace HO107:=rB_ HO107 hb;replace HO109:=Aside0.mk (Kd.Q_below (q15_) hb);replace HO117:=rB_ HO117 hb;replace HO121:=rB_ HO121 hb;replace HB:=bS_ HB hb;(try clear hb)) | (go_at_call 74;(with_reducible refine (spec_AgreementBeyond.calls k _ _ t102 _ _ t103 t104 t105 t124 t125 _ ?side1 ?side2 ?side3 ?side4 A11.out).mono ?_);(case side1=>exact cX_ (Kd.R_reads' HO107.out).2.2);(case side2=>exact (Kd.R_reads' HO107.out).2.1);(case side3=>exact cX_ (Kd.Q_reads' HO109.out).2.2);(case side4=>exact (Kd.Q_reads' HO109.out).2.1);rintro e w23 ⟨rfl,hb⟩;replace HO107:=rB_ HO107 hb;replace HO109:=Aside0.mk (Kd.Q_below (q15_) hb);replace HO117:=rB_ HO117 hb;replace HO121:=rB_ HO121 hb;replace HB:=bS_ HB hb;(try clear hb)) | (go_at_call 27;(with_reducible refine (impl_ConfusedGlosses.calls k _ _ t102 _ _ t103 t104 t105 t126 t127 t128 t129 _ ?side1 ?side2 ?side3 ?side4 A12.out).mono ?_);(case side1=>exact cX_ (Kd.R_reads' HO107.out).2.2);(case side2=>exact (Kd.R_reads' HO107.out).2.1);(case side3=>exact cX_ (Kd.Q_reads' HO109.out).2.2);(case side4=>exact (Kd.Q_reads' HO109.out).2.1);rintro e w24 ⟨rfl,hb⟩;replace HO107:=rB_ HO107 hb;replace HO109:=Aside0.mk (Kd.Q_below (q15_) hb);replace HO117:=rB_ HO117 hb;replace HO121:=rB_ HO121 hb;replace HB:=bS_ HB hb;(try clear hb)) | (go_at_call 25;(with_reducible refine (spec_ConfusedGlosses.calls k _ _ t102 _ _ t103 t104 t105 t130 t131 t132 t133 _ ?side1 ?side2 ?side3 ?side4 A13.out).mono ?_);(case side1=>exact cX_ (Kd.R_reads' HO107.out).2.2);(case side2=>exact (Kd.R_reads' HO107.out).2.1);(case side3=>exact cX_ (Kd.Q_reads' HO109.out).2.2);(case side4=>exact (Kd.Q_reads' HO109.out).2.1);rintro e w25 ⟨rfl,hb⟩;replace HO107:=rB_ HO107 hb;replace HO109:=Aside0.mk (Kd.Q_below (q15_) hb);replace HO117:=rB_ HO117 hb;replace HO121:=rB_ HO121 hb;replace HB:=bS_ HB hb;(try clear hb)));go_upto_region 12 with (first | (go_at_call 47;(with_reducible refine (laws_big.calls _ _ l0 _ _ l1 false _ ?side1 ?side2 ?side3 ?side4 A3.out).mono ?_);(case side1=>exact cX_ HR0.out);(case side2=>exact HC0.out);(case side3=>exact cX_ HR1.out);(case side4=>exact HC1.out);rintro e w' ⟨rfl,⟨nd,rfl⟩⟩;(try first | exact ⟨rfl,_,World.drewN_drewN _ _ _⟩ | exact ⟨rfl,_,Eq.trans (World.drewN_drewN _ _ _) (congrArg (World.drewN _) (Nat.add_assoc _ _ _))⟩)) | (go_at_call 68;(with_reducible refine (spec_DrawSameFrames.calls k _ _ l0 t102 t103 t104 t105 _ ?side1 ?side2 A5.out).mono ?_);(case side1=>exact cX_ HR0.out);(case side2=>exact HC0.out);rintro e w15 ⟨v106,v108,rfl,ho0,ho1,hb⟩;have HO107:=Aside0.mk (Kd.R_lower ho0 (below_size (q19_)));have HO109:=Aside0.mk (Kd.Q_lower ho1 (below_size (q19_)));replace HB:=bS_ HB hb;(try clear hb);(try clear ho0);(try clear ho1);obtain ⟨Ao16,co16,eo16⟩:=Kd.R_slice HO107.out;subst eo16;obtain ⟨Ao17,co17,eo17,_⟩:=Kd.Q_slice HO109.out;subst eo17) | (go_at_call 69;(with_reducible refine (impl_SameFrames.calls k _ _ t102 _ _ t103 t104 t105 t110 t111 _ ?side1 ?side2 ?side3 ?side4 A6.out).mono ?_);(case side1=>exact cX_ (Kd.R_reads' HO107.out).2.2);(case side2=>exact (Kd.R_reads' HO107.out).2.1);(case side3=>exact cX_ (Kd.Q_reads' HO109.out).2.2);(case side4=>exact (Kd.Q_reads' HO109.out).2.1);rintro e w18 ⟨rfl,hb⟩;replace HO107:=rB_ HO107 hb;replace HO109:=Aside0.mk (Kd.Q_below (q15_) hb);replace HB:=bS_ HB hb;(try clear hb)) | (go_at_call 70;(with_reducible refine (spec_SameFrames.calls k _ _ t102 _ _ t103 t104 t105 t112 t113 _ ?side1 ?side2 ?side3 ?side4 A7.out).mono ?_);(case side1=>exact cX_ (Kd.R_reads' HO107.out).2.2);(case side2=>exact (Kd.R_reads' HO107.out).2.1);(case side3=>exact cX_ (Kd.Q_reads' HO109.out).2.2);(case side4=>exact (Kd.Q_reads' HO109.out).2.1);rintro e w19 ⟨rfl,hb⟩;replace HO107:=rB_ HO107 hb;replace HO109:=Aside0.mk (Kd.Q_below (q15_) hb);replace HB:=bS_ HB hb;(try clear hb)) | (go_at_call 71;(with_reducible refine (impl_DisagreedSpans.calls k _ _ t102 _ _ t103 t104 t105 t114 t115 _ ?side1 ?side2 ?side3 ?side4 A8.out).mono ?_);(case side1=>exact cX_ (Kd.R_reads' HO107.out).2.2);(case side2=>exact (Kd.R_reads' HO107.out).2.1);(case side3=>exact cX_ (Kd.Q_reads' HO109.out).2.2);(case side4=>exact (Kd.Q_reads' HO109.out).2.1);rintro e w20 ⟨v116,rfl,ho0,hb⟩;replace HO107:=rB_ HO107 hb;replace HO109:=Aside0.mk (Kd.Q_below (q15_) hb);have HO117:=Aside0.mk (Kd.R_lower ho0 (below_size (q19_)));replace HB:=bS_ HB hb;(try clear hb);(try clear ho0)) | (go_at_call 72;(with_reducible refine (spec_DisagreedSpans.calls k _ _ t102 _ _ t103 t104 t105 t118 t119 _ ?side1 ?side2 ?side3 ?side4 A9.out).mono ?_);(case side1=>exact cX_ (Kd.R_reads' HO107.out).2.2);(case side2=>exact (Kd.R_reads' HO107.out).2.1);(case side3=>exact cX_ (Kd.Q_reads' HO109.out).2.2);(case side4=>exact (Kd.Q_reads' HO109.out).2.1);rintro e w21 ⟨v120,rfl,ho0,hb⟩;replace HO107:=rB_ HO107 hb;replace HO109:=Aside0.mk (Kd.Q_below (q15_) hb);have HO121:=Aside0.mk (Kd.R_lower (Kd.R_new' ho0 (Kd.R_lt (by (with_reducible repeat (first | apply Kd.R_alloc | apply Kd.R_drewN | apply Kd.R_drew));exact HO117.out))) (below_size (q19_)));replace HO117:=rE_ HO117 ho0 hb;replace HB:=bS_ HB hb;(try clear hb);(try clear ho0)) | (go_at_call 73;(with_reducible refine (impl_AgreementBeyond.calls k _ _ t102 _ _ t103 t104 t105 t122 t123 _ ?side1 ?side2 ?side3 ?side4 A10.out).mono ?_);(case side1=>exact cX_ (Kd.R_reads' HO107.out).2.2);(case side2=>exact (Kd.R_reads' HO107.out).2.1);(case side3=>exact cX_ (Kd.Q_reads' HO109.out).2.2);(case side4=>exact (Kd.Q_reads' HO109.out).2.1);rintro e w22 ⟨rfl,hb⟩;replace HO107:=rB_ HO107 hb;replace HO109:=Aside0.mk (Kd.Q_below (q15_) hb);replace HO117:=rB_ HO117 hb;replace HO121:=rB_ HO121 hb;replace HB:=bS_ HB hb;(try clear hb)) | (go_at_call 74;(with_reducible refine (spec_AgreementBeyond.calls k _ _ t102 _ _ t103 t104 t105 t124 t125 _ ?side1 ?side2 ?side3 ?side4 A11.out).mono ?_);(case side1=>exact cX_ (Kd.R_reads' HO107.out).2.2);(case side2=>exact (Kd.R_reads' HO107.out).2.1);(case side3=>exact cX_ (Kd.Q_reads' HO109.out).2.2);(case side4=>exact (Kd.Q_reads' HO109.out).2.1);rintro e w23 ⟨rfl,hb⟩;replace HO107:=rB_ HO107 hb;replace HO109:=Aside0.mk (Kd.Q_below (q15_) hb);replace HO117:=rB_ HO117 hb;replace HO121:=rB_ HO121 hb;replace HB:=bS_ HB hb;(try clear hb)) | (go_at_call 27;(with_reducible refine (impl_ConfusedGlosses.calls k _ _ t102 _ _ t103 t104 t105 t126 t127 t128 t129 _ ?side1 ?side2 ?side3 ?side4 A12.out).mono ?_);(case side1=>exact cX_ (Kd.R_reads' HO107.out).2.2);(case side2=>exact (Kd.R_reads' HO107.out).2.1);(case side3=>exact cX_ (Kd.Q_reads' HO109.out).2.2);(case side4=>exact (Kd.Q_reads' HO109.out).2.1);rintro e w24 ⟨rfl,hb⟩;replace HO107:=rB_ HO107 hb;replace HO109:=Aside0.mk (Kd.Q_below (q15_) hb);replace HO117:=rB_ HO117 hb;replace HO121:=rB_ HO121 hb;replace HB:=bS_ HB hb;(try clear hb)) | (go_at_call 25;(with_reducible refine (spec_ConfusedGlosses.calls k _ _ t102 _ _ t103 t104 t105 t130 t131 t132 t133 _ ?side1 ?side2 ?side3 ?side4 A13.out).mono ?_);(case side1=>exact cX_ (Kd.R_reads' HO107.out).2.2);(case side2=>exact (Kd.R_reads' HO107.out).2.1);(case side3=>exact cX_ (Kd.Q_reads' HO109.out).2.2);(case side4=>exact (Kd.Q_reads' HO109.out).2.1);rintro e w25 ⟨rfl,hb⟩;replace HO107:=rB_ HO107 hb;replace HO109:=Aside0.mk (Kd.Q_below (q15_) hb);replace HO117:=rB_ HO117 hb;replace HO121:=rB_ HO121 hb;replace HB:=bS_ HB hb;(try clear hb))))
  (try simp only [Act.put,List.setIfInBounds_toArray,List.set_cons_zero,List.set_cons_succ])
  go_cut [193] (fun v193 wc=>∃ (kq : Nat) (x193_13 : Bool),v193 = .bool x193_13 ∧ Aside0 (laws_FnAgreement.j0 kq l1 t102 t103 t104 t105 t111 t112 t118 t124 t129 t130 t131 t132 x193_13 = some r) ∧ Aside0 (kq ≤ k) ∧ Aside0 (Kd.R k58 58 wc w.heap.size (fun k_=>some k_ ≠ ((.slice Ao17 t103.length co17) : Value).ownBlock) (.slice Ao16 t102.length co16) t102) ∧ Aside0 (Kd.Q k58 58 wc w.heap.size (fun k_=>some k_ ≠ ((.slice Ao16 t102.length co16) : Value).ownBlock) (.slice Ao17 t103.length co17) t103) ∧ Aside0 (Kd.R k96 96 wc w.heap.size (fun _=>True) v120 t118) ∧ Aside0 (Below w.heap.size w wc))
  case first=>as_aux_lemma =>
   have H:=HC14.out;clear HC14;by_cases c26 : (t111 != t113) = true
   ·rw [if_pos c26] at H;have c26b0 : (t111 != t113) = true:=c26
    (try (have c26b1 : decide (t111 = t113) = false:=by simpa using c26))
    (try (have c26b2 : (t111 == t113) = false:=by simpa using c26))
    (try (have c26b3 : ¬ (t111 = t113):=by simpa using c26))
    clear c26
    (first | rw [c26b0] | (simp only [i64_w,i32_w];rw [c26b0]) | skip)
    first | with_reducible exact (laws_FnAgreement.j0_no H ht_.out).elim | with_reducible exact (laws_FnAgreement.j2_no H ht_.out).elim | with_reducible exact (laws_FnAgreement.j3_no H ht_.out).elim
   ·rw [if_neg c26] at H;have c26b0 : (t111 != t113) = false:=by simpa using c26
    (try (have c26b1 : decide (t111 = t113) = true:=by simpa using c26))
    (try (have c26b2 : (t111 == t113) = true:=by simpa using c26))
    clear c26
    (first | rw [c26b0] | (simp only [i64_w,i32_w];rw [c26b0]) | skip)
    by_cases c27 : t110 = t112
    ·rw [if_pos c27] at H;have c27b0 : (t110 == t112) = true:=beq_iff_eq.mpr c27;have c27b1 : (t110 != t112) = false:=bne_eq_false_iff_eq.mpr c27;clear c27;by_cases c28 : (t115 != t119) = true
     ·rw [if_pos c28] at H;have c28b0 : (t115 != t119) = true:=c28
      (try (have c28b1 : decide (t115 = t119) = false:=by simpa using c28))
      (try (have c28b2 : (t115 == t119) = false:=by simpa using c28))
      (try (have c28b3 : ¬ (t115 = t119):=by simpa using c28))
      clear c28;first | with_reducible exact (laws_FnAgreement.j0_no H ht_.out).elim | with_reducible exact (laws_FnAgreement.j2_no H ht_.out).elim | with_reducible exact (laws_FnAgreement.j3_no H ht_.out).elim
     ·rw [if_neg c28] at H;have c28b0 : (t115 != t119) = false:=by simpa using c28
      (try (have c28b1 : decide (t115 = t119) = true:=by simpa using c28))
      (try (have c28b2 : (t115 == t119) = true:=by simpa using c28))
      clear c28;replace H:=Option.bind_eq_some_iff.mp H;obtain ⟨t134,A290,H⟩:=H;(try dsimp only at H);have A29:=Aside0.mk A290;clear A290;by_cases c30 : t134 = true
      ·subst c30;have H1 : (if (t123 != t125) = true then (laws_FnAgreement.j0 k l1 t102 t103 t104 t105 t111 t112 t118 t124 t129 t130 t131 t132 true) else (if t122 = t124 then (if (t129 != t133) = true then (laws_FnAgreement.j0 k l1 t102 t103 t104 t105 t111 t112 t118 t124 t129 t130 t131 t132 true) else (if t126.toList = t130.toList then (if t127.toList = t131.toList then (if t128 = t132 then (if (t115 != t111) = true then (laws_FnAgreement.j0 k l1 t102 t103 t104 t105 t111 t112 t118 t124 t129 t130 t131 t132 true) else (if (t123 != t111) = true then (laws_FnAgreement.j0 k l1 t102 t103 t104 t105 t111 t112 t118 t124 t129 t130 t131 t132 true) else (if t129 = true then (laws_FnAgreement.j0 k l1 t102 t103 t104 t105 t111 t112 t118 t124 t129 t130 t131 t132 (!t111)) else (laws_FnAgreement.j0 k l1 t102 t103 t104 t105 t111 t112 t118 t124 t129 t130 t131 t132 false)))) else (laws_FnAgreement.j0 k l1 t102 t103 t104 t105 t111 t112 t118 t124 t129 t130 t131 t132 true)) else (laws_FnAgreement.j0 k l1 t102 t103 t104 t105 t111 t112 t118 t124 t129 t130 t131 t132 true)) else (laws_FnAgreement.j0 k l1 t102 t103 t104 t105 t111 t112 t118 t124 t129 t130 t131 t132 true))) else (laws_FnAgreement.j0 k l1 t102 t103 t104 t105 t111 t112 t118 t124 t129 t130 t131 t132 true))) = some r:=by rw [if_pos rfl] at H;exact H
       clear H;have H:=H1;clear H1;by_cases c31 : (t123 != t125) = true
       ·rw [if_pos c31] at H;have c31b0 : (t123 != t125) = true:=c31
        (try (have c31b1 : decide (t123 = t125) = false:=by simpa using c31))
        (try (have c31b2 : (t123 == t125) = false:=by simpa using c31))
        (try (have c31b3 : ¬ (t123 = t125):=by simpa using c31))
        clear c31;first | with_reducible exact (laws_FnAgreement.j0_no H ht_.out).elim | with_reducible exact (laws_FnAgreement.j2_no H ht_.out).elim | with_reducible exact (laws_FnAgreement.j3_no H ht_.out).elim
       ·rw [if_neg c31] at H;have c31b0 : (t123 != t125) = false:=by simpa using c31
        (try (have c31b1 : decide (t123 = t125) = true:=by simpa using c31))
        (try (have c31b2 : (t123 == t125) = true:=by simpa using c31))
        clear c31;by_cases c34 : t122 = t124
        ·rw [if_pos c34] at H;have c34b0 : (t122 == t124) = true:=beq_iff_eq.mpr c34;have c34b1 : (t122 != t124) = false:=bne_eq_false_iff_eq.mpr c34;clear c34;by_cases c35 : (t129 != t133) = true
         ·rw [if_pos c35] at H;have c35b0 : (t129 != t133) = true:=c35
          (try (have c35b1 : decide (t129 = t133) = false:=by simpa using c35))
          (try (have c35b2 : (t129 == t133) = false:=by simpa using c35))
          (try (have c35b3 : ¬ (t129 = t133):=by simpa using c35))
          clear c35;first | with_reducible exact (laws_FnAgreement.j0_no H ht_.out).elim | with_reducible exact (laws_FnAgreement.j2_no H ht_.out).elim | with_reducible exact (laws_FnAgreement.j3_no H ht_.out).elim
         ·rw [if_neg c35] at H;have c35b0 : (t129 != t133) = false:=by simpa using c35
          (try (have c35b1 : decide (t129 = t133) = true:=by simpa using c35))
          (try (have c35b2 : (t129 == t133) = true:=by simpa using c35))
          clear c35;by_cases c38 : t126.toList = t130.toList
          ·rw [if_pos c38] at H;have c38b0 : (t126.toList == t130.toList) = true:=beq_iff_eq.mpr c38;have c38b1 : (t126.toList != t130.toList) = false:=bne_eq_false_iff_eq.mpr c38;clear c38;by_cases c39 : t127.toList = t131.toList
           ·rw [if_pos c39] at H;have c39b0 : (t127.toList == t131.toList) = true:=beq_iff_eq.mpr c39;have c39b1 : (t127.toList != t131.toList) = false:=bne_eq_false_iff_eq.mpr c39;clear c39;by_cases c40 : t128 = t132
            ·rw [if_pos c40] at H;have c40b0 : (t128 == t132) = true:=beq_iff_eq.mpr c40;have c40b1 : (t128 != t132) = false:=bne_eq_false_iff_eq.mpr c40;clear c40;by_cases c41 : (t115 != t111) = true
             ·rw [if_pos c41] at H;have c41b0 : (t115 != t111) = true:=c41
              (try (have c41b1 : decide (t115 = t111) = false:=by simpa using c41))
              (try (have c41b2 : (t115 == t111) = false:=by simpa using c41))
              (try (have c41b3 : ¬ (t115 = t111):=by simpa using c41))
              clear c41;first | with_reducible exact (laws_FnAgreement.j0_no H ht_.out).elim | with_reducible exact (laws_FnAgreement.j2_no H ht_.out).elim | with_reducible exact (laws_FnAgreement.j3_no H ht_.out).elim
             ·rw [if_neg c41] at H;have c41b0 : (t115 != t111) = false:=by simpa using c41
              (try (have c41b1 : decide (t115 = t111) = true:=by simpa using c41))
              (try (have c41b2 : (t115 == t111) = true:=by simpa using c41))
              clear c41;by_cases c44 : (t123 != t111) = true
              ·rw [if_pos c44] at H;have c44b0 : (t123 != t111) = true:=c44
               (try (have c44b1 : decide (t123 = t111) = false:=by simpa using c44))
               (try (have c44b2 : (t123 == t111) = false:=by simpa using c44))
               (try (have c44b3 : ¬ (t123 = t111):=by simpa using c44))
               clear c44;first | with_reducible exact (laws_FnAgreement.j0_no H ht_.out).elim | with_reducible exact (laws_FnAgreement.j2_no H ht_.out).elim | with_reducible exact (laws_FnAgreement.j3_no H ht_.out).elim
              ·rw [if_neg c44] at H;have c44b0 : (t123 != t111) = false:=by simpa using c44
               (try (have c44b1 : decide (t123 = t111) = true:=by simpa using c44))
               (try (have c44b2 : (t123 == t111) = true:=by simpa using c44))
               clear c44;by_cases c47 : t129 = true
               ·subst c47;have H1 : (laws_FnAgreement.j0 k l1 t102 t103 t104 t105 t111 t112 t118 t124 true t130 t131 t132 (!t111)) = some r:=by rw [if_pos rfl] at H;exact H
                clear H;have H:=H1;clear H1;have H' := Aside0.mk H;clear H;obtain ⟨Ao48,co48,eo48⟩:=Kd.R_slice HO117.out;subst eo48;obtain ⟨Ao49,co49,eo49⟩:=Kd.R_slice HO121.out;subst eo49;go_wp2_with (first | (go_at_call 75;(with_reducible refine (laws_pSameSpans.calls k _ _ t114 _ _ t118 true _ ?side1 ?side2 ?side3 ?side4 A29.out).mono ?_);(case side1=>exact cX_ (Kd.R_reads' HO117.out).2.2);(case side2=>exact (Kd.R_reads' HO117.out).2.1);(case side3=>exact cX_ (Kd.R_reads' HO121.out).2.2);(case side4=>exact (Kd.R_reads' HO121.out).2.1);rintro e w' ⟨rfl,⟨nd,rfl⟩⟩;(try first | exact ⟨rfl,_,World.drewN_drewN _ _ _⟩ | exact ⟨rfl,_,Eq.trans (World.drewN_drewN _ _ _) (congrArg (World.drewN _) (Nat.add_assoc _ _ _))⟩)))
                repeat (go_quiet (first | (go_at_call 75;(with_reducible refine (laws_pSameSpans.calls k _ _ t114 _ _ t118 true _ ?side1 ?side2 ?side3 ?side4 A29.out).mono ?_);(case side1=>exact cX_ (Kd.R_reads' HO117.out).2.2);(case side2=>exact (Kd.R_reads' HO117.out).2.1);(case side3=>exact cX_ (Kd.R_reads' HO121.out).2.2);(case side4=>exact (Kd.R_reads' HO121.out).2.1);rintro e w' ⟨rfl,⟨nd,rfl⟩⟩;(try first | exact ⟨rfl,_,World.drewN_drewN _ _ _⟩ | exact ⟨rfl,_,Eq.trans (World.drewN_drewN _ _ _) (congrArg (World.drewN _) (Nat.add_assoc _ _ _))⟩)));try go_wp2_with (first | (go_at_call 75;(with_reducible refine (laws_pSameSpans.calls k _ _ t114 _ _ t118 true _ ?side1 ?side2 ?side3 ?side4 A29.out).mono ?_);(case side1=>exact cX_ (Kd.R_reads' HO117.out).2.2);(case side2=>exact (Kd.R_reads' HO117.out).2.1);(case side3=>exact cX_ (Kd.R_reads' HO121.out).2.2);(case side4=>exact (Kd.R_reads' HO121.out).2.1);rintro e w' ⟨rfl,⟨nd,rfl⟩⟩;(try first | exact ⟨rfl,_,World.drewN_drewN _ _ _⟩ | exact ⟨rfl,_,Eq.trans (World.drewN_drewN _ _ _) (congrArg (World.drewN _) (Nat.add_assoc _ _ _))⟩))))
                go_meet
                case rel=>exact ⟨_,(!t111),(q1_),H', ⟨by first | omega | exact Nat.le_refl _⟩,⟨by (with_reducible repeat (first | apply Kd.R_alloc | apply Kd.R_drewN | apply Kd.R_drew));exact HO107.out⟩,⟨q15_⟩,⟨by (with_reducible repeat (first | apply Kd.R_alloc | apply Kd.R_drewN | apply Kd.R_drew));exact Kd.R_mono HO121.out (fun _ hk=>trivial)⟩,⟨q19_⟩⟩
               ·replace c47:=Bool.eq_false_iff.mpr c47;subst c47;have H1 : (laws_FnAgreement.j0 k l1 t102 t103 t104 t105 t111 t112 t118 t124 false t130 t131 t132 false) = some r:=by rw [if_neg (show ¬ (false = true) by decide)] at H;exact H
                clear H;have H:=H1;clear H1;have H' := Aside0.mk H;clear H;obtain ⟨Ao50,co50,eo50⟩:=Kd.R_slice HO117.out;subst eo50;obtain ⟨Ao51,co51,eo51⟩:=Kd.R_slice HO121.out;subst eo51;go_wp2_with (first | (go_at_call 75;(with_reducible refine (laws_pSameSpans.calls k _ _ t114 _ _ t118 true _ ?side1 ?side2 ?side3 ?side4 A29.out).mono ?_);(case side1=>exact cX_ (Kd.R_reads' HO117.out).2.2);(case side2=>exact (Kd.R_reads' HO117.out).2.1);(case side3=>exact cX_ (Kd.R_reads' HO121.out).2.2);(case side4=>exact (Kd.R_reads' HO121.out).2.1);rintro e w' ⟨rfl,⟨nd,rfl⟩⟩;(try first | exact ⟨rfl,_,World.drewN_drewN _ _ _⟩ | exact ⟨rfl,_,Eq.trans (World.drewN_drewN _ _ _) (congrArg (World.drewN _) (Nat.add_assoc _ _ _))⟩)))
                repeat (go_quiet (first | (go_at_call 75;(with_reducible refine (laws_pSameSpans.calls k _ _ t114 _ _ t118 true _ ?side1 ?side2 ?side3 ?side4 A29.out).mono ?_);(case side1=>exact cX_ (Kd.R_reads' HO117.out).2.2);(case side2=>exact (Kd.R_reads' HO117.out).2.1);(case side3=>exact cX_ (Kd.R_reads' HO121.out).2.2);(case side4=>exact (Kd.R_reads' HO121.out).2.1);rintro e w' ⟨rfl,⟨nd,rfl⟩⟩;(try first | exact ⟨rfl,_,World.drewN_drewN _ _ _⟩ | exact ⟨rfl,_,Eq.trans (World.drewN_drewN _ _ _) (congrArg (World.drewN _) (Nat.add_assoc _ _ _))⟩)));try go_wp2_with (first | (go_at_call 75;(with_reducible refine (laws_pSameSpans.calls k _ _ t114 _ _ t118 true _ ?side1 ?side2 ?side3 ?side4 A29.out).mono ?_);(case side1=>exact cX_ (Kd.R_reads' HO117.out).2.2);(case side2=>exact (Kd.R_reads' HO117.out).2.1);(case side3=>exact cX_ (Kd.R_reads' HO121.out).2.2);(case side4=>exact (Kd.R_reads' HO121.out).2.1);rintro e w' ⟨rfl,⟨nd,rfl⟩⟩;(try first | exact ⟨rfl,_,World.drewN_drewN _ _ _⟩ | exact ⟨rfl,_,Eq.trans (World.drewN_drewN _ _ _) (congrArg (World.drewN _) (Nat.add_assoc _ _ _))⟩))))
                go_meet
                case rel=>exact ⟨_,(false),(q1_),H', ⟨by first | omega | exact Nat.le_refl _⟩,⟨by (with_reducible repeat (first | apply Kd.R_alloc | apply Kd.R_drewN | apply Kd.R_drew));exact HO107.out⟩,⟨q15_⟩,⟨by (with_reducible repeat (first | apply Kd.R_alloc | apply Kd.R_drewN | apply Kd.R_drew));exact Kd.R_mono HO121.out (fun _ hk=>trivial)⟩,⟨q19_⟩⟩
            ·rw [if_neg c40] at H;have c40b0 : (t128 == t132) = false:=beq_eq_false_iff_ne.mpr c40;have c40b1 : (t128 != t132) = true:=bne_iff_ne.mpr c40;first | with_reducible exact (laws_FnAgreement.j0_no H ht_.out).elim | with_reducible exact (laws_FnAgreement.j2_no H ht_.out).elim | with_reducible exact (laws_FnAgreement.j3_no H ht_.out).elim
           ·rw [if_neg c39] at H;have c39b0 : (t127.toList == t131.toList) = false:=beq_eq_false_iff_ne.mpr c39;have c39b1 : (t127.toList != t131.toList) = true:=bne_iff_ne.mpr c39;first | with_reducible exact (laws_FnAgreement.j0_no H ht_.out).elim | with_reducible exact (laws_FnAgreement.j2_no H ht_.out).elim | with_reducible exact (laws_FnAgreement.j3_no H ht_.out).elim
          ·rw [if_neg c38] at H;have c38b0 : (t126.toList == t130.toList) = false:=beq_eq_false_iff_ne.mpr c38;have c38b1 : (t126.toList != t130.toList) = true:=bne_iff_ne.mpr c38;first | with_reducible exact (laws_FnAgreement.j0_no H ht_.out).elim | with_reducible exact (laws_FnAgreement.j2_no H ht_.out).elim | with_reducible exact (laws_FnAgreement.j3_no H ht_.out).elim
        ·rw [if_neg c34] at H;have c34b0 : (t122 == t124) = false:=beq_eq_false_iff_ne.mpr c34;have c34b1 : (t122 != t124) = true:=bne_iff_ne.mpr c34;first | with_reducible exact (laws_FnAgreement.j0_no H ht_.out).elim | with_reducible exact (laws_FnAgreement.j2_no H ht_.out).elim | with_reducible exact (laws_FnAgreement.j3_no H ht_.out).elim
      ·replace c30:=Bool.eq_false_iff.mpr c30;subst c30;have H1 : (laws_FnAgreement.j0 k l1 t102 t103 t104 t105 t111 t112 t118 t124 t129 t130 t131 t132 true) = some r:=by rw [if_neg (show ¬ (false = true) by decide)] at H;exact H
       clear H;have H:=H1;clear H1;first | with_reducible exact (laws_FnAgreement.j0_no H ht_.out).elim | with_reducible exact (laws_FnAgreement.j2_no H ht_.out).elim | with_reducible exact (laws_FnAgreement.j3_no H ht_.out).elim
    ·rw [if_neg c27] at H;have c27b0 : (t110 == t112) = false:=beq_eq_false_iff_ne.mpr c27;have c27b1 : (t110 != t112) = true:=bne_iff_ne.mpr c27;first | with_reducible exact (laws_FnAgreement.j0_no H ht_.out).elim | with_reducible exact (laws_FnAgreement.j2_no H ht_.out).elim | with_reducible exact (laws_FnAgreement.j3_no H ht_.out).elim
  case rest=>as_aux_lemma =>
   clear HC14;try clear c1
   try clear c4
   try clear c26
   try clear c26b0
   try clear c26b1
   try clear c26b2
   try clear c27
   try clear c27b0
   try clear c27b1
   try clear c28
   try clear c28b0
   try clear c28b1
   try clear c28b2
   try clear c30
   try clear c31
   try clear c31b0
   try clear c31b1
   try clear c31b2
   try clear c34
   try clear c34b0
   try clear c34b1
   try clear c35
   try clear c35b0
   try clear c35b1
   try clear c35b2
   try clear c38
   try clear c38b0
   try clear c38b1
   try clear c39
   try clear c39b0
   try clear c39b1
   try clear c40
   try clear c40b0
   try clear c40b1
   try clear c41
   try clear c41b0
   try clear c41b1
   try clear c41b2
   try clear c44
   try clear c44b0
   try clear c44b1
   try clear c44b2
   try clear c47
   obtain ⟨kq,x193_13,rfl,HA,HJ13,HO_5,HO_6,HO_15,HB⟩:=hcut;cases kq with
   | zero=>exact absurd HA.out (by simp [laws_FnAgreement.j0])
   | succ kj13 =>
    have H:=HA.out;clear HA;simp only [laws_FnAgreement.j0] at H;by_cases c62 : x193_13 = true
    ·subst c62;have H1 : (some false) = some r:=by rw [if_pos rfl] at H;exact H
     clear H;have H:=H1;clear H1;exact absurd (Option.some.inj H) (by rw [ht_.out];decide)
    ·replace c62:=Bool.eq_false_iff.mpr c62;subst c62;have H1 : (if t111 = true then (laws_FnAgreement.l0 kj13 l1 t102 t103 t104 t105 t112 t118 t124 t129 t130 t131 t132 t112 t118 (t118.length : Int) 0) else ((spec_DrawGlossAt.f kj13 l1).bind fun bt162=>((impl_GlossAt.f kj13 bt162.1 bt162.2).bind fun bt166=>((spec_GlossAt.f kj13 bt162.1 bt162.2).bind fun bt168=>(if (bt166.2 == bt168.2) = true then (some (bt166.1.toList == bt168.1.toList)) else (some false)))))) = some r:=by rw [if_neg (show ¬ (false = true) by decide)] at H;exact H
     clear H;have H:=H1;clear H1;by_cases c63 : t111 = true
     ·subst c63;have H1 : (laws_FnAgreement.l0 kj13 l1 t102 t103 t104 t105 t112 t118 t124 t129 t130 t131 t132 t112 t118 (t118.length : Int) 0) = some r:=by rw [if_pos rfl] at H;exact H
      clear H;have H:=H1;clear H1;have H' := Aside0.mk H;clear H;obtain ⟨Ao64,co64,eo64⟩:=Kd.R_slice HO_15.out;subst eo64;go_wp2;repeat (go_quiet (fail);try go_wp2)
      go_loopg [29,198] kj13 (fun kq v29 v198 w' => ∃ (x29_2 : Int) (x198_2 : Int),v29 = .int .i64 x29_2 ∧ v198 = .int .i64 x198_2 ∧ Aside0 (laws_FnAgreement.l0 kq l1 t102 t103 t104 t105 t112 t118 t124 t129 t130 t131 t132 x29_2 t118 (t118.length : Int) x198_2 = some r) ∧ Aside0 (kq ≤ kj13) ∧ Aside0 (Kd.R k58 58 w' w.heap.size (fun k_=>some k_ ≠ ((.slice Ao17 t103.length co17) : Value).ownBlock) (.slice Ao16 t102.length co16) t102) ∧ Aside0 (Kd.Q k58 58 w' w.heap.size (fun k_=>some k_ ≠ ((.slice Ao16 t102.length co16) : Value).ownBlock) (.slice Ao17 t103.length co17) t103) ∧ Aside0 (Kd.R k96 96 w' w.heap.size (fun _=>True) (.slice Ao64 t118.length co64) t118) ∧ Aside0 (Kd.R k96 96 w' w.heap.size (fun _=>True) (.slice Ao64 t118.length co64) t118) ∧ Aside0 (Below w.heap.size w w'))
      case atStart=>exact ⟨(t112),(0),(q1_),(q1_),H', ⟨Nat.le_refl _⟩,⟨q7_⟩,⟨q8_⟩,⟨q16_⟩,⟨q16_⟩,⟨q19_⟩⟩
      case round =>
       clear H';try clear c1
       try clear c4
       try clear c26
       try clear c26b0
       try clear c26b1
       try clear c26b2
       try clear c27
       try clear c27b0
       try clear c27b1
       try clear c28
       try clear c28b0
       try clear c28b1
       try clear c28b2
       try clear c30
       try clear c31
       try clear c31b0
       try clear c31b1
       try clear c31b2
       try clear c34
       try clear c34b0
       try clear c34b1
       try clear c35
       try clear c35b0
       try clear c35b1
       try clear c35b2
       try clear c38
       try clear c38b0
       try clear c38b1
       try clear c39
       try clear c39b0
       try clear c39b1
       try clear c40
       try clear c40b0
       try clear c40b1
       try clear c41
       try clear c41b0
       try clear c41b1
       try clear c41b2
       try clear c44
       try clear c44b0
       try clear c44b1
       try clear c44b2
       try clear c47
       try clear c62
       try clear c63
       obtain ⟨x29_2,x198_2,rfl,rfl,HA,HK2,HO_5,HO_6,HO_15,HO_196,HB⟩:=hrel;cases gk with
       | zero=>exact absurd HA.out (by simp [laws_FnAgreement.l0])
       | succ k2 =>
        have H:=HA.out;clear HA;simp only [laws_FnAgreement.l0] at H;by_cases c65 : x198_2 < (t118.length : Int)
        ·rw [if_pos c65] at H;have c65b0 : decide (x198_2 < (t118.length : Int)) = true:=decide_eq_true c65;clear c65;by_cases c66 : 0 ≤ x198_2
         ·rw [if_pos c66] at H;have c66b0 : decide (0 ≤ x198_2) = true:=decide_eq_true c66;clear c66;by_cases c67 : x198_2 < (t118.length : Int)
          ·rw [if_pos c67] at H;have c67b0 : decide (x198_2 < (t118.length : Int)) = true:=decide_eq_true c67;clear c67;by_cases c68 : x198_2 > 0
           ·rw [if_pos c68] at H;have c68b0 : decide (0 < x198_2) = true:=decide_eq_true c68;clear c68;obtain ⟨ji69,hji69⟩ : ∃ j_ : Int,(wrap64 (x198_2 - 1)) = j_:=⟨_,rfl⟩;replace H : (if 0 ≤ (ji69) then (if (ji69) < (t118.length : Int) then (if ((rd_T96 t118 (ji69)).f1) ≥ ((rd_T96 t118 x198_2).f0) then (some false) else (laws_FnAgreement.l0 k2 l1 t102 t103 t104 t105 t112 t118 t124 t129 t130 t131 t132 (wrap64 (x29_2 + (wrap64 (((rd_T96 t118 x198_2).f1) - ((rd_T96 t118 x198_2).f0))))) t118 (t118.length : Int) (wrap64 (x198_2 + 1)))) else (none)) else (none)) = some r:=by first | (rw [hji69] at H;exact H) | (simp only [hji69] at H ⊢;exact H)
            have hji69w : (IntKind.i64.wrap (x198_2 - 1)) = ji69:=(i64_w _).trans hji69;by_cases c70 : 0 ≤ (ji69)
            ·rw [if_pos c70] at H;have c70b0 : decide (0 ≤ (ji69)) = true:=decide_eq_true c70;clear c70;by_cases c71 : (ji69) < (t118.length : Int)
             ·rw [if_pos c71] at H;have c71b0 : decide ((ji69) < (t118.length : Int)) = true:=decide_eq_true c71;clear c71;by_cases c72 : ((rd_T96 t118 (ji69)).f1) ≥ ((rd_T96 t118 x198_2).f0)
              ·rw [if_pos c72] at H;have c72b0 : decide (((rd_T96 t118 x198_2).f0) ≤ ((rd_T96 t118 (ji69)).f1)) = true:=decide_eq_true c72;clear c72;exact absurd (Option.some.inj H) (by rw [ht_.out];decide)
              ·rw [if_neg c72] at H;have c72b0 : decide (((rd_T96 t118 x198_2).f0) ≤ ((rd_T96 t118 (ji69)).f1)) = false:=decide_eq_false c72;clear c72;have H' := Aside0.mk H;clear H;have p135 : 0 ≤ (x198_2 : Int):=of_decide_eq_true (q2_);have q135 : x198_2 < (t118.length : Int):=of_decide_eq_true (q2_);obtain ⟨ad135,e135,hx135_0,hx135_1⟩:=at_T96 (Kd.R_reads' HO_196.out).2.2 x198_2 p135 q135;cases e135;replace p135:=eq_true p135;replace q135:=eq_true q135;go_wp2_with (first | ((with_reducible refine gate_dst (N:=31) rfl ?_);(try (refine gate_guard (by rfl) ?_;dsimp only));refine box_event ?hg (N:=31) ?hd (cs:=#[.int .i64 0,.int .i64 0]) (t:=96) ?hr ?_;(case hd=>rfl);(case hg=>rfl);(case hr=>first | (go_simp;done) | (go_simp;rfl));intro gb136 hg w73 hbox hb;replace HO_5:=rB_ HO_5 hb;replace HO_6:=Aside0.mk (Kd.Q_below (q8_) hb);replace HO_15:=Aside0.mk (Kd.R_below (Kd.R_elderB (q16_) gb136 (Nat.le_of_eq hg.symm)) hb);replace HO_196:=Aside0.mk (Kd.R_below (Kd.R_elderB (by (with_reducible repeat (first | apply Kd.R_alloc | apply Kd.R_drewN | apply Kd.R_drew));exact HO_196.out) gb136 (Nat.le_of_eq hg.symm)) hb);have BK136:=Aside0.mk (hbox);have GW136:=Aside0.mk ((q48_ : w.heap.size ≤ gb136));have GE136:=Aside0.mk ((q48_ : w.heap.size ≤ gb136));replace HB:=bS_ HB hb;clear hb hbox hg;have hcz74_0 : w73.cell? ⟨gb136,0,none⟩ = some (.int .i64 0):=(blk_cell BK136.out 0).trans rfl;have hcz74_1 : w73.cell? ⟨gb136,1,none⟩ = some (.int .i64 0):=(blk_cell BK136.out 1).trans rfl;have hfz74_0:=blk_frozen BK136.out 0;have hfz74_1:=blk_frozen BK136.out 1;have p137 : 0 ≤ ((ji69) : Int):=of_decide_eq_true (q2_);have q137 : (ji69) < (t118.length : Int):=of_decide_eq_true (q2_);obtain ⟨ad137,e137,hx137_0,hx137_1⟩:=at_T96 (Kd.R_reads' HO_15.out).2.2 (ji69) p137 q137;obtain rfl : ad135 = ad137:=(by injection e137);have hn137_0 : ad135.block ≠ gb136:=(HO_15.out.1 _ rfl).2;have hn137_1 : ad135.block ≠ gb136:=(HO_15.out.1 _ rfl).2;replace hx137_0:=(cell_far (p:=⟨gb136,0,none⟩) (by first | (rw [add_block];exact hn137_0) | (show (Addr.add _ _).block ≠ _;rw [add_block];exact hn137_0) | exact hn137_0) (.int .i64 ((rd_T96 t118 x198_2).f0))).trans hx137_0;replace hx137_1:=(cell_far (p:=⟨gb136,0,none⟩) (by first | (rw [add_block];exact hn137_0) | (show (Addr.add _ _).block ≠ _;rw [add_block];exact hn137_0) | exact hn137_0) (.int .i64 ((rd_T96 t118 x198_2).f0))).trans hx137_1;replace hx137_0:=(cell_far (p:=⟨gb136,1,none⟩) (by first | (rw [add_block];exact hn137_1) | (show (Addr.add _ _).block ≠ _;rw [add_block];exact hn137_1) | exact hn137_1) (.int .i64 ((rd_T96 t118 x198_2).f1))).trans hx137_0;replace hx137_1:=(cell_far (p:=⟨gb136,1,none⟩) (by first | (rw [add_block];exact hn137_1) | (show (Addr.add _ _).block ≠ _;rw [add_block];exact hn137_1) | exact hn137_1) (.int .i64 ((rd_T96 t118 x198_2).f1))).trans hx137_1;(try have hy137_0:=fun (n_ : Nat)=>(show ((((w73.drewN n_).setCell ⟨gb136,0,none⟩ (.int .i64 ((rd_T96 t118 x198_2).f0))).setCell ⟨gb136,1,none⟩ (.int .i64 ((rd_T96 t118 x198_2).f1)))).cell? _ = some _ from hx137_0));(try have hy137_1:=fun (n_ : Nat)=>(show ((((w73.drewN n_).setCell ⟨gb136,0,none⟩ (.int .i64 ((rd_T96 t118 x198_2).f0))).setCell ⟨gb136,1,none⟩ (.int .i64 ((rd_T96 t118 x198_2).f1)))).cell? _ = some _ from hx137_1));clear hn137_0;clear hn137_1;replace p137:=eq_true p137;replace q137:=eq_true q137))
               repeat (go_quiet (first | ((with_reducible refine gate_dst (N:=31) rfl ?_);(try (refine gate_guard (by rfl) ?_;dsimp only));refine box_event ?hg (N:=31) ?hd (cs:=#[.int .i64 0,.int .i64 0]) (t:=96) ?hr ?_;(case hd=>rfl);(case hg=>rfl);(case hr=>first | (go_simp;done) | (go_simp;rfl));intro gb136 hg w73 hbox hb;replace HO_5:=rB_ HO_5 hb;replace HO_6:=Aside0.mk (Kd.Q_below (q8_) hb);replace HO_15:=Aside0.mk (Kd.R_below (Kd.R_elderB (q16_) gb136 (Nat.le_of_eq hg.symm)) hb);replace HO_196:=Aside0.mk (Kd.R_below (Kd.R_elderB (by (with_reducible repeat (first | apply Kd.R_alloc | apply Kd.R_drewN | apply Kd.R_drew));exact HO_196.out) gb136 (Nat.le_of_eq hg.symm)) hb);have BK136:=Aside0.mk (hbox);have GW136:=Aside0.mk ((q48_ : w.heap.size ≤ gb136));have GE136:=Aside0.mk ((q48_ : w.heap.size ≤ gb136));replace HB:=bS_ HB hb;clear hb hbox hg;have hcz74_0 : w73.cell? ⟨gb136,0,none⟩ = some (.int .i64 0):=(blk_cell BK136.out 0).trans rfl;have hcz74_1 : w73.cell? ⟨gb136,1,none⟩ = some (.int .i64 0):=(blk_cell BK136.out 1).trans rfl;have hfz74_0:=blk_frozen BK136.out 0;have hfz74_1:=blk_frozen BK136.out 1;have p137 : 0 ≤ ((ji69) : Int):=of_decide_eq_true (q2_);have q137 : (ji69) < (t118.length : Int):=of_decide_eq_true (q2_);obtain ⟨ad137,e137,hx137_0,hx137_1⟩:=at_T96 (Kd.R_reads' HO_15.out).2.2 (ji69) p137 q137;obtain rfl : ad135 = ad137:=(by injection e137);have hn137_0 : ad135.block ≠ gb136:=(HO_15.out.1 _ rfl).2;have hn137_1 : ad135.block ≠ gb136:=(HO_15.out.1 _ rfl).2;replace hx137_0:=(cell_far (p:=⟨gb136,0,none⟩) (by first | (rw [add_block];exact hn137_0) | (show (Addr.add _ _).block ≠ _;rw [add_block];exact hn137_0) | exact hn137_0) (.int .i64 ((rd_T96 t118 x198_2).f0))).trans hx137_0;replace hx137_1:=(cell_far (p:=⟨gb136,0,none⟩) (by first | (rw [add_block];exact hn137_0) | (show (Addr.add _ _).block ≠ _;rw [add_block];exact hn137_0) | exact hn137_0) (.int .i64 ((rd_T96 t118 x198_2).f0))).trans hx137_1;replace hx137_0:=(cell_far (p:=⟨gb136,1,none⟩) (by first | (rw [add_block];exact hn137_1) | (show (Addr.add _ _).block ≠ _;rw [add_block];exact hn137_1) | exact hn137_1) (.int .i64 ((rd_T96 t118 x198_2).f1))).trans hx137_0;replace hx137_1:=(cell_far (p:=⟨gb136,1,none⟩) (by first | (rw [add_block];exact hn137_1) | (show (Addr.add _ _).block ≠ _;rw [add_block];exact hn137_1) | exact hn137_1) (.int .i64 ((rd_T96 t118 x198_2).f1))).trans hx137_1;(try have hy137_0:=fun (n_ : Nat)=>(show ((((w73.drewN n_).setCell ⟨gb136,0,none⟩ (.int .i64 ((rd_T96 t118 x198_2).f0))).setCell ⟨gb136,1,none⟩ (.int .i64 ((rd_T96 t118 x198_2).f1)))).cell? _ = some _ from hx137_0));(try have hy137_1:=fun (n_ : Nat)=>(show ((((w73.drewN n_).setCell ⟨gb136,0,none⟩ (.int .i64 ((rd_T96 t118 x198_2).f0))).setCell ⟨gb136,1,none⟩ (.int .i64 ((rd_T96 t118 x198_2).f1)))).cell? _ = some _ from hx137_1));clear hn137_0;clear hn137_1;replace p137:=eq_true p137;replace q137:=eq_true q137));try go_wp2_with (first | ((with_reducible refine gate_dst (N:=31) rfl ?_);(try (refine gate_guard (by rfl) ?_;dsimp only));refine box_event ?hg (N:=31) ?hd (cs:=#[.int .i64 0,.int .i64 0]) (t:=96) ?hr ?_;(case hd=>rfl);(case hg=>rfl);(case hr=>first | (go_simp;done) | (go_simp;rfl));intro gb136 hg w73 hbox hb;replace HO_5:=rB_ HO_5 hb;replace HO_6:=Aside0.mk (Kd.Q_below (q8_) hb);replace HO_15:=Aside0.mk (Kd.R_below (Kd.R_elderB (q16_) gb136 (Nat.le_of_eq hg.symm)) hb);replace HO_196:=Aside0.mk (Kd.R_below (Kd.R_elderB (by (with_reducible repeat (first | apply Kd.R_alloc | apply Kd.R_drewN | apply Kd.R_drew));exact HO_196.out) gb136 (Nat.le_of_eq hg.symm)) hb);have BK136:=Aside0.mk (hbox);have GW136:=Aside0.mk ((q48_ : w.heap.size ≤ gb136));have GE136:=Aside0.mk ((q48_ : w.heap.size ≤ gb136));replace HB:=bS_ HB hb;clear hb hbox hg;have hcz74_0 : w73.cell? ⟨gb136,0,none⟩ = some (.int .i64 0):=(blk_cell BK136.out 0).trans rfl;have hcz74_1 : w73.cell? ⟨gb136,1,none⟩ = some (.int .i64 0):=(blk_cell BK136.out 1).trans rfl;have hfz74_0:=blk_frozen BK136.out 0;have hfz74_1:=blk_frozen BK136.out 1;have p137 : 0 ≤ ((ji69) : Int):=of_decide_eq_true (q2_);have q137 : (ji69) < (t118.length : Int):=of_decide_eq_true (q2_);obtain ⟨ad137,e137,hx137_0,hx137_1⟩:=at_T96 (Kd.R_reads' HO_15.out).2.2 (ji69) p137 q137;obtain rfl : ad135 = ad137:=(by injection e137);have hn137_0 : ad135.block ≠ gb136:=(HO_15.out.1 _ rfl).2;have hn137_1 : ad135.block ≠ gb136:=(HO_15.out.1 _ rfl).2;replace hx137_0:=(cell_far (p:=⟨gb136,0,none⟩) (by first | (rw [add_block];exact hn137_0) | (show (Addr.add _ _).block ≠ _;rw [add_block];exact hn137_0) | exact hn137_0) (.int .i64 ((rd_T96 t118 x198_2).f0))).trans hx137_0;replace hx137_1:=(cell_far (p:=⟨gb136,0,none⟩) (by first | (rw [add_block];exact hn137_0) | (show (Addr.add _ _).block ≠ _;rw [add_block];exact hn137_0) | exact hn137_0) (.int .i64 ((rd_T96 t118 x198_2).f0))).trans hx137_1;replace hx137_0:=(cell_far (p:=⟨gb136,1,none⟩) (by first | (rw [add_block];exact hn137_1) | (show (Addr.add _ _).block ≠ _;rw [add_block];exact hn137_1) | exact hn137_1) (.int .i64 ((rd_T96 t118 x198_2).f1))).trans hx137_0;replace hx137_1:=(cell_far (p:=⟨gb136,1,none⟩) (by first | (rw [add_block];exact hn137_1) | (show (Addr.add _ _).block ≠ _;rw [add_block];exact hn137_1) | exact hn137_1) (.int .i64 ((rd_T96 t118 x198_2).f1))).trans hx137_1;(try have hy137_0:=fun (n_ : Nat)=>(show ((((w73.drewN n_).setCell ⟨gb136,0,none⟩ (.int .i64 ((rd_T96 t118 x198_2).f0))).setCell ⟨gb136,1,none⟩ (.int .i64 ((rd_T96 t118 x198_2).f1)))).cell? _ = some _ from hx137_0));(try have hy137_1:=fun (n_ : Nat)=>(show ((((w73.drewN n_).setCell ⟨gb136,0,none⟩ (.int .i64 ((rd_T96 t118 x198_2).f0))).setCell ⟨gb136,1,none⟩ (.int .i64 ((rd_T96 t118 x198_2).f1)))).cell? _ = some _ from hx137_1));clear hn137_0;clear hn137_1;replace p137:=eq_true p137;replace q137:=eq_true q137)))
               go_roundg k2
               case measure=>have:=HJ13.out;have:=HK2.out;omega
               case rel=>exact ⟨(wrap64 (x29_2 + (wrap64 (((rd_T96 t118 x198_2).f1) - ((rd_T96 t118 x198_2).f0))))),(wrap64 (x198_2 + 1)),(q1_),(q1_),H', ⟨by have:=HJ13.out;have:=HK2.out;omega⟩,⟨by (with_reducible repeat (first | apply Kd.R_alloc | apply Kd.R_drewN | apply Kd.R_drew));exact Kd.R_mono (Kd.R_far (p:=⟨gb136,1,none⟩) (Kd.R_far (p:=⟨gb136,0,none⟩) (Kd.R_types HO_5.out BK136.out (by decide)) (fun _ hk=>hk.2) (.int .i64 ((rd_T96 t118 x198_2).f0))) (fun _ hk=>hk.2) (.int .i64 ((rd_T96 t118 x198_2).f1))) (fun _ hk=>hk.1)⟩,⟨by (with_reducible repeat (first | apply Kd.Q_alloc | apply Kd.Q_drewN | apply Kd.Q_drew));exact Kd.Q_mono (Kd.Q_far (p:=⟨gb136,1,none⟩) (Kd.Q_far (p:=⟨gb136,0,none⟩) (Kd.Q_types HO_6.out BK136.out (by decide)) (fun _ hk=>hk.2) (.int .i64 ((rd_T96 t118 x198_2).f0))) (fun _ hk=>hk.2) (.int .i64 ((rd_T96 t118 x198_2).f1))) (fun _ hk=>hk.1)⟩,⟨by (with_reducible repeat (first | apply Kd.R_alloc | apply Kd.R_drewN | apply Kd.R_drew));exact Kd.R_mono (Kd.R_far (p:=⟨gb136,1,none⟩) (Kd.R_far (p:=⟨gb136,0,none⟩) (Kd.R_mono HO_15.out (fun k_ hk=>(⟨hk,hk.2⟩ : _ ∧ k_ ≠ gb136))) (fun _ hk=>hk.2) (.int .i64 ((rd_T96 t118 x198_2).f0))) (fun _ hk=>hk.2) (.int .i64 ((rd_T96 t118 x198_2).f1))) (fun _ hk=>trivial)⟩,⟨by (with_reducible repeat (first | apply Kd.R_alloc | apply Kd.R_drewN | apply Kd.R_drew));exact Kd.R_mono (Kd.R_far (p:=⟨gb136,1,none⟩) (Kd.R_far (p:=⟨gb136,0,none⟩) (Kd.R_mono HO_196.out (fun k_ hk=>(⟨hk,hk.2⟩ : _ ∧ k_ ≠ gb136))) (fun _ hk=>hk.2) (.int .i64 ((rd_T96 t118 x198_2).f0))) (fun _ hk=>hk.2) (.int .i64 ((rd_T96 t118 x198_2).f1))) (fun _ hk=>trivial)⟩,⟨by repeat (first | (with_reducible first | exact HB.out | apply below_alloc | apply pw_below_drewN | apply below_drew1 | refine below_set ?_ GE136.out) | exact HB.out)⟩⟩
             ·rw [if_neg c71] at H;exact absurd H (by simp)
            ·rw [if_neg c70] at H;exact absurd H (by simp)
           ·rw [if_neg c68] at H;have c68b0 : decide (0 < x198_2) = false:=decide_eq_false c68;clear c68;have H' := Aside0.mk H;clear H;have p135 : 0 ≤ (x198_2 : Int):=of_decide_eq_true (q2_);have q135 : x198_2 < (t118.length : Int):=of_decide_eq_true (q2_);obtain ⟨ad135,e135,hx135_0,hx135_1⟩:=at_T96 (Kd.R_reads' HO_196.out).2.2 x198_2 p135 q135;cases e135;replace p135:=eq_true p135;replace q135:=eq_true q135;go_wp2_with (first | ((with_reducible refine gate_dst (N:=31) rfl ?_);(try (refine gate_guard (by rfl) ?_;dsimp only));refine box_event ?hg (N:=31) ?hd (cs:=#[.int .i64 0,.int .i64 0]) (t:=96) ?hr ?_;(case hd=>rfl);(case hg=>rfl);(case hr=>first | (go_simp;done) | (go_simp;rfl));intro gb136 hg w75 hbox hb;replace HO_5:=rB_ HO_5 hb;replace HO_6:=Aside0.mk (Kd.Q_below (q8_) hb);replace HO_15:=Aside0.mk (Kd.R_below (Kd.R_elderB (q16_) gb136 (Nat.le_of_eq hg.symm)) hb);replace HO_196:=Aside0.mk (Kd.R_below (Kd.R_elderB (by (with_reducible repeat (first | apply Kd.R_alloc | apply Kd.R_drewN | apply Kd.R_drew));exact HO_196.out) gb136 (Nat.le_of_eq hg.symm)) hb);have BK136:=Aside0.mk (hbox);have GW136:=Aside0.mk ((q48_ : w.heap.size ≤ gb136));have GE136:=Aside0.mk ((q48_ : w.heap.size ≤ gb136));replace HB:=bS_ HB hb;clear hb hbox hg;have hcz76_0 : w75.cell? ⟨gb136,0,none⟩ = some (.int .i64 0):=(blk_cell BK136.out 0).trans rfl;have hcz76_1 : w75.cell? ⟨gb136,1,none⟩ = some (.int .i64 0):=(blk_cell BK136.out 1).trans rfl;have hfz76_0:=blk_frozen BK136.out 0;have hfz76_1:=blk_frozen BK136.out 1))
            repeat (go_quiet (first | ((with_reducible refine gate_dst (N:=31) rfl ?_);(try (refine gate_guard (by rfl) ?_;dsimp only));refine box_event ?hg (N:=31) ?hd (cs:=#[.int .i64 0,.int .i64 0]) (t:=96) ?hr ?_;(case hd=>rfl);(case hg=>rfl);(case hr=>first | (go_simp;done) | (go_simp;rfl));intro gb136 hg w75 hbox hb;replace HO_5:=rB_ HO_5 hb;replace HO_6:=Aside0.mk (Kd.Q_below (q8_) hb);replace HO_15:=Aside0.mk (Kd.R_below (Kd.R_elderB (q16_) gb136 (Nat.le_of_eq hg.symm)) hb);replace HO_196:=Aside0.mk (Kd.R_below (Kd.R_elderB (by (with_reducible repeat (first | apply Kd.R_alloc | apply Kd.R_drewN | apply Kd.R_drew));exact HO_196.out) gb136 (Nat.le_of_eq hg.symm)) hb);have BK136:=Aside0.mk (hbox);have GW136:=Aside0.mk ((q48_ : w.heap.size ≤ gb136));have GE136:=Aside0.mk ((q48_ : w.heap.size ≤ gb136));replace HB:=bS_ HB hb;clear hb hbox hg;have hcz76_0 : w75.cell? ⟨gb136,0,none⟩ = some (.int .i64 0):=(blk_cell BK136.out 0).trans rfl;have hcz76_1 : w75.cell? ⟨gb136,1,none⟩ = some (.int .i64 0):=(blk_cell BK136.out 1).trans rfl;have hfz76_0:=blk_frozen BK136.out 0;have hfz76_1:=blk_frozen BK136.out 1));try go_wp2_with (first | ((with_reducible refine gate_dst (N:=31) rfl ?_);(try (refine gate_guard (by rfl) ?_;dsimp only));refine box_event ?hg (N:=31) ?hd (cs:=#[.int .i64 0,.int .i64 0]) (t:=96) ?hr ?_;(case hd=>rfl);(case hg=>rfl);(case hr=>first | (go_simp;done) | (go_simp;rfl));intro gb136 hg w75 hbox hb;replace HO_5:=rB_ HO_5 hb;replace HO_6:=Aside0.mk (Kd.Q_below (q8_) hb);replace HO_15:=Aside0.mk (Kd.R_below (Kd.R_elderB (q16_) gb136 (Nat.le_of_eq hg.symm)) hb);replace HO_196:=Aside0.mk (Kd.R_below (Kd.R_elderB (by (with_reducible repeat (first | apply Kd.R_alloc | apply Kd.R_drewN | apply Kd.R_drew));exact HO_196.out) gb136 (Nat.le_of_eq hg.symm)) hb);have BK136:=Aside0.mk (hbox);have GW136:=Aside0.mk ((q48_ : w.heap.size ≤ gb136));have GE136:=Aside0.mk ((q48_ : w.heap.size ≤ gb136));replace HB:=bS_ HB hb;clear hb hbox hg;have hcz76_0 : w75.cell? ⟨gb136,0,none⟩ = some (.int .i64 0):=(blk_cell BK136.out 0).trans rfl;have hcz76_1 : w75.cell? ⟨gb136,1,none⟩ = some (.int .i64 0):=(blk_cell BK136.out 1).trans rfl;have hfz76_0:=blk_frozen BK136.out 0;have hfz76_1:=blk_frozen BK136.out 1)))
            go_roundg k2
            case measure=>have:=HJ13.out;have:=HK2.out;omega
            case rel=>exact ⟨(wrap64 (x29_2 + (wrap64 (((rd_T96 t118 x198_2).f1) - ((rd_T96 t118 x198_2).f0))))),(wrap64 (x198_2 + 1)),(q1_),(q1_),H', ⟨by have:=HJ13.out;have:=HK2.out;omega⟩,⟨by (with_reducible repeat (first | apply Kd.R_alloc | apply Kd.R_drewN | apply Kd.R_drew));exact Kd.R_mono (Kd.R_far (p:=⟨gb136,1,none⟩) (Kd.R_far (p:=⟨gb136,0,none⟩) (Kd.R_types HO_5.out BK136.out (by decide)) (fun _ hk=>hk.2) (.int .i64 ((rd_T96 t118 x198_2).f0))) (fun _ hk=>hk.2) (.int .i64 ((rd_T96 t118 x198_2).f1))) (fun _ hk=>hk.1)⟩,⟨by (with_reducible repeat (first | apply Kd.Q_alloc | apply Kd.Q_drewN | apply Kd.Q_drew));exact Kd.Q_mono (Kd.Q_far (p:=⟨gb136,1,none⟩) (Kd.Q_far (p:=⟨gb136,0,none⟩) (Kd.Q_types HO_6.out BK136.out (by decide)) (fun _ hk=>hk.2) (.int .i64 ((rd_T96 t118 x198_2).f0))) (fun _ hk=>hk.2) (.int .i64 ((rd_T96 t118 x198_2).f1))) (fun _ hk=>hk.1)⟩,⟨by (with_reducible repeat (first | apply Kd.R_alloc | apply Kd.R_drewN | apply Kd.R_drew));exact Kd.R_mono (Kd.R_far (p:=⟨gb136,1,none⟩) (Kd.R_far (p:=⟨gb136,0,none⟩) (Kd.R_mono HO_15.out (fun k_ hk=>(⟨hk,hk.2⟩ : _ ∧ k_ ≠ gb136))) (fun _ hk=>hk.2) (.int .i64 ((rd_T96 t118 x198_2).f0))) (fun _ hk=>hk.2) (.int .i64 ((rd_T96 t118 x198_2).f1))) (fun _ hk=>trivial)⟩,⟨by (with_reducible repeat (first | apply Kd.R_alloc | apply Kd.R_drewN | apply Kd.R_drew));exact Kd.R_mono (Kd.R_far (p:=⟨gb136,1,none⟩) (Kd.R_far (p:=⟨gb136,0,none⟩) (Kd.R_mono HO_196.out (fun k_ hk=>(⟨hk,hk.2⟩ : _ ∧ k_ ≠ gb136))) (fun _ hk=>hk.2) (.int .i64 ((rd_T96 t118 x198_2).f0))) (fun _ hk=>hk.2) (.int .i64 ((rd_T96 t118 x198_2).f1))) (fun _ hk=>trivial)⟩,⟨by repeat (first | (with_reducible first | exact HB.out | apply below_alloc | apply pw_below_drewN | apply below_drew1 | refine below_set ?_ GE136.out) | exact HB.out)⟩⟩
          ·rw [if_neg c67] at H;exact absurd H (by simp)
         ·rw [if_neg c66] at H;exact absurd H (by simp)
        ·rw [if_neg c65] at H;have c65b0 : decide (x198_2 < (t118.length : Int)) = false:=decide_eq_false c65;clear c65;replace H:=Option.bind_eq_some_iff.mp H;obtain ⟨⟨t138,t139⟩,A770,H⟩:=H;(try dsimp only at H);have A77:=Aside0.mk A770;clear A770;replace H:=Option.bind_eq_some_iff.mp H;obtain ⟨⟨t140,t141⟩,A780,H⟩:=H;(try dsimp only at H);have A78:=Aside0.mk A780;clear A780;have HC79:=Aside0.mk H;clear H;go_upto_region 25 with (first | (go_at_call 69;(with_reducible refine (impl_SameFrames.calls k2 _ _ t103 _ _ t102 t104 t105 t138 t139 _ ?side1 ?side2 ?side3 ?side4 A77.out).mono ?_);(case side1=>exact cX_ (Kd.Q_reads' HO_6.out).2.2);(case side2=>exact (Kd.Q_reads' HO_6.out).2.1);(case side3=>exact cX_ (Kd.R_reads' HO_5.out).2.2);(case side4=>exact (Kd.R_reads' HO_5.out).2.1);rintro e w80 ⟨rfl,hb⟩;replace HO_5:=rB_ HO_5 hb;replace HO_6:=Aside0.mk (Kd.Q_below (q8_) hb);replace HO_15:=rB_ HO_15 hb;replace HO_196:=rB_ HO_196 hb;replace HB:=bS_ HB hb;(try clear hb)) | (go_at_call 73;(with_reducible refine (impl_AgreementBeyond.calls k2 _ _ t102 _ _ t102 t104 t105 t140 t141 _ ?side1 ?side2 ?side3 ?side4 A78.out).mono ?_);(case side1=>exact cX_ (Kd.R_reads' HO_5.out).2.2);(case side2=>exact (Kd.R_reads' HO_5.out).2.1);(case side3=>exact cX_ (Kd.R_reads' HO_5.out).2.2);(case side4=>exact (Kd.R_reads' HO_5.out).2.1);rintro e w81 ⟨rfl,hb⟩;replace HO_5:=rB_ HO_5 hb;replace HO_6:=Aside0.mk (Kd.Q_below (q8_) hb);replace HO_15:=rB_ HO_15 hb;replace HO_196:=rB_ HO_196 hb;replace HB:=bS_ HB hb;(try clear hb)))
         repeat (go_quiet (first | (go_at_call 69;(with_reducible refine (impl_SameFrames.calls k2 _ _ t103 _ _ t102 t104 t105 t138 t139 _ ?side1 ?side2 ?side3 ?side4 A77.out).mono ?_);(case side1=>exact cX_ (Kd.Q_reads' HO_6.out).2.2);(case side2=>exact (Kd.Q_reads' HO_6.out).2.1);(case side3=>exact cX_ (Kd.R_reads' HO_5.out).2.2);(case side4=>exact (Kd.R_reads' HO_5.out).2.1);rintro e w80 ⟨rfl,hb⟩;replace HO_5:=rB_ HO_5 hb;replace HO_6:=Aside0.mk (Kd.Q_below (q8_) hb);replace HO_15:=rB_ HO_15 hb;replace HO_196:=rB_ HO_196 hb;replace HB:=bS_ HB hb;(try clear hb)) | (go_at_call 73;(with_reducible refine (impl_AgreementBeyond.calls k2 _ _ t102 _ _ t102 t104 t105 t140 t141 _ ?side1 ?side2 ?side3 ?side4 A78.out).mono ?_);(case side1=>exact cX_ (Kd.R_reads' HO_5.out).2.2);(case side2=>exact (Kd.R_reads' HO_5.out).2.1);(case side3=>exact cX_ (Kd.R_reads' HO_5.out).2.2);(case side4=>exact (Kd.R_reads' HO_5.out).2.1);rintro e w81 ⟨rfl,hb⟩;replace HO_5:=rB_ HO_5 hb;replace HO_6:=Aside0.mk (Kd.Q_below (q8_) hb);replace HO_15:=rB_ HO_15 hb;replace HO_196:=rB_ HO_196 hb;replace HB:=bS_ HB hb;(try clear hb)));go_upto_region 25 with (first | (go_at_call 69;(with_reducible refine (impl_SameFrames.calls k2 _ _ t103 _ _ t102 t104 t105 t138 t139 _ ?side1 ?side2 ?side3 ?side4 A77.out).mono ?_);(case side1=>exact cX_ (Kd.Q_reads' HO_6.out).2.2);(case side2=>exact (Kd.Q_reads' HO_6.out).2.1);(case side3=>exact cX_ (Kd.R_reads' HO_5.out).2.2);(case side4=>exact (Kd.R_reads' HO_5.out).2.1);rintro e w80 ⟨rfl,hb⟩;replace HO_5:=rB_ HO_5 hb;replace HO_6:=Aside0.mk (Kd.Q_below (q8_) hb);replace HO_15:=rB_ HO_15 hb;replace HO_196:=rB_ HO_196 hb;replace HB:=bS_ HB hb;(try clear hb)) | (go_at_call 73;(with_reducible refine (impl_AgreementBeyond.calls k2 _ _ t102 _ _ t102 t104 t105 t140 t141 _ ?side1 ?side2 ?side3 ?side4 A78.out).mono ?_);(case side1=>exact cX_ (Kd.R_reads' HO_5.out).2.2);(case side2=>exact (Kd.R_reads' HO_5.out).2.1);(case side3=>exact cX_ (Kd.R_reads' HO_5.out).2.2);(case side4=>exact (Kd.R_reads' HO_5.out).2.1);rintro e w81 ⟨rfl,hb⟩;replace HO_5:=rB_ HO_5 hb;replace HO_6:=Aside0.mk (Kd.Q_below (q8_) hb);replace HO_15:=rB_ HO_15 hb;replace HO_196:=rB_ HO_196 hb;replace HB:=bS_ HB hb;(try clear hb))))
         (try simp only [Act.put,List.setIfInBounds_toArray,List.set_cons_zero,List.set_cons_succ])
         go_cut [288] (fun v288 wc=>∃ (kq : Nat) (x288_78 : Bool),v288 = .bool x288_78 ∧ Aside0 (laws_FnAgreement.j2 kq l1 t102 t104 t105 x288_78 = some r) ∧ Aside0 (kq ≤ k2) ∧ Aside0 (Kd.R k58 58 wc w.heap.size (fun _=>True) (.slice Ao16 t102.length co16) t102) ∧ Aside0 (Below w.heap.size w wc))
         case first=>as_aux_lemma =>
          have H:=HC79.out;clear HC79;by_cases c82 : x29_2 = (wrap64 (t105 - t104))
          ·rw [if_pos c82] at H;have c82b0 : (x29_2 == (wrap64 (t105 - t104))) = true:=beq_iff_eq.mpr c82;have c82b1 : (x29_2 != (wrap64 (t105 - t104))) = false:=bne_eq_false_iff_eq.mpr c82;clear c82
           (first | rw [c82b0] | (simp only [i64_w,i32_w];rw [c82b0]) | skip)
           by_cases c83 : t139 = true
           ·subst c83;have H1 : (if t138 = t112 then (if t141 = true then (if t140 = 100 then (if t124 > 100 then (laws_FnAgreement.j2 k2 l1 t102 t104 t105 true) else (if t124 = 100 then (if t112 = (wrap64 (t105 - t104)) then (if t129 = true then (if t132 < 1 then (laws_FnAgreement.j2 k2 l1 t102 t104 t105 true) else (laws_FnAgreement.j2 k2 l1 t102 t104 t105 (t130.toList == t131.toList))) else (laws_FnAgreement.j2 k2 l1 t102 t104 t105 false)) else (laws_FnAgreement.j2 k2 l1 t102 t104 t105 true)) else (if t129 = true then (if t132 < 1 then (laws_FnAgreement.j2 k2 l1 t102 t104 t105 true) else (laws_FnAgreement.j2 k2 l1 t102 t104 t105 (t130.toList == t131.toList))) else (laws_FnAgreement.j2 k2 l1 t102 t104 t105 false)))) else (laws_FnAgreement.j2 k2 l1 t102 t104 t105 true)) else (laws_FnAgreement.j2 k2 l1 t102 t104 t105 true)) else (laws_FnAgreement.j2 k2 l1 t102 t104 t105 true)) = some r:=by rw [if_pos rfl] at H;exact H
            clear H;have H:=H1;clear H1;by_cases c84 : t138 = t112
            ·rw [if_pos c84] at H;have c84b0 : (t138 == t112) = true:=beq_iff_eq.mpr c84;have c84b1 : (t138 != t112) = false:=bne_eq_false_iff_eq.mpr c84;clear c84;by_cases c85 : t141 = true
             ·subst c85;have H1 : (if t140 = 100 then (if t124 > 100 then (laws_FnAgreement.j2 k2 l1 t102 t104 t105 true) else (if t124 = 100 then (if t112 = (wrap64 (t105 - t104)) then (if t129 = true then (if t132 < 1 then (laws_FnAgreement.j2 k2 l1 t102 t104 t105 true) else (laws_FnAgreement.j2 k2 l1 t102 t104 t105 (t130.toList == t131.toList))) else (laws_FnAgreement.j2 k2 l1 t102 t104 t105 false)) else (laws_FnAgreement.j2 k2 l1 t102 t104 t105 true)) else (if t129 = true then (if t132 < 1 then (laws_FnAgreement.j2 k2 l1 t102 t104 t105 true) else (laws_FnAgreement.j2 k2 l1 t102 t104 t105 (t130.toList == t131.toList))) else (laws_FnAgreement.j2 k2 l1 t102 t104 t105 false)))) else (laws_FnAgreement.j2 k2 l1 t102 t104 t105 true)) = some r:=by rw [if_pos rfl] at H;exact H
              clear H;have H:=H1;clear H1;by_cases c86 : t140 = 100
              ·rw [if_pos c86] at H;have c86b0 : (t140 == 100) = true:=beq_iff_eq.mpr c86;have c86b1 : (t140 != 100) = false:=bne_eq_false_iff_eq.mpr c86;clear c86;by_cases c87 : t124 > 100
               ·rw [if_pos c87] at H;have c87b0 : decide (100 < t124) = true:=decide_eq_true c87;clear c87;first | with_reducible exact (laws_FnAgreement.j0_no H ht_.out).elim | with_reducible exact (laws_FnAgreement.j2_no H ht_.out).elim | with_reducible exact (laws_FnAgreement.j3_no H ht_.out).elim
               ·rw [if_neg c87] at H;have c87b0 : decide (100 < t124) = false:=decide_eq_false c87;clear c87;by_cases c88 : t124 = 100
                ·rw [if_pos c88] at H;have c88b0 : (t124 == 100) = true:=beq_iff_eq.mpr c88;have c88b1 : (t124 != 100) = false:=bne_eq_false_iff_eq.mpr c88;clear c88;by_cases c89 : t112 = (wrap64 (t105 - t104))
                 ·rw [if_pos c89] at H;have c89b0 : (t112 == (wrap64 (t105 - t104))) = true:=beq_iff_eq.mpr c89;have c89b1 : (t112 != (wrap64 (t105 - t104))) = false:=bne_eq_false_iff_eq.mpr c89;clear c89;by_cases c90 : t129 = true
                  ·subst c90;have H1 : (if t132 < 1 then (laws_FnAgreement.j2 k2 l1 t102 t104 t105 true) else (laws_FnAgreement.j2 k2 l1 t102 t104 t105 (t130.toList == t131.toList))) = some r:=by rw [if_pos rfl] at H;exact H
                   clear H;have H:=H1;clear H1;by_cases c91 : t132 < 1
                   ·rw [if_pos c91] at H;have c91b0 : decide (t132 < 1) = true:=decide_eq_true c91;clear c91;first | with_reducible exact (laws_FnAgreement.j0_no H ht_.out).elim | with_reducible exact (laws_FnAgreement.j2_no H ht_.out).elim | with_reducible exact (laws_FnAgreement.j3_no H ht_.out).elim
                   ·rw [if_neg c91] at H;have c91b0 : decide (t132 < 1) = false:=decide_eq_false c91;clear c91;have H' := Aside0.mk H;clear H;go_wp2;repeat (go_quiet (fail);try go_wp2)
                    go_meet
                    case rel=>exact ⟨_,((t130.toList == t131.toList)),(q1_),H', ⟨by have:=HJ13.out;have:=HK2.out;first | omega | exact Nat.le_refl _⟩,⟨by (with_reducible repeat (first | apply Kd.R_alloc | apply Kd.R_drewN | apply Kd.R_drew));exact Kd.R_mono HO_5.out (fun _ hk=>trivial)⟩,⟨q19_⟩⟩
                  ·replace c90:=Bool.eq_false_iff.mpr c90;subst c90;have H1 : (laws_FnAgreement.j2 k2 l1 t102 t104 t105 false) = some r:=by rw [if_neg (show ¬ (false = true) by decide)] at H;exact H
                   clear H;have H:=H1;clear H1;have H' := Aside0.mk H;clear H;go_wp2;repeat (go_quiet (fail);try go_wp2)
                   go_meet
                   case rel=>exact ⟨_,(false),(q1_),H', ⟨by have:=HJ13.out;have:=HK2.out;first | omega | exact Nat.le_refl _⟩,⟨by (with_reducible repeat (first | apply Kd.R_alloc | apply Kd.R_drewN | apply Kd.R_drew));exact Kd.R_mono HO_5.out (fun _ hk=>trivial)⟩,⟨q19_⟩⟩
                 ·rw [if_neg c89] at H;have c89b0 : (t112 == (wrap64 (t105 - t104))) = false:=beq_eq_false_iff_ne.mpr c89;have c89b1 : (t112 != (wrap64 (t105 - t104))) = true:=bne_iff_ne.mpr c89;first | with_reducible exact (laws_FnAgreement.j0_no H ht_.out).elim | with_reducible exact (laws_FnAgreement.j2_no H ht_.out).elim | with_reducible exact (laws_FnAgreement.j3_no H ht_.out).elim
                ·rw [if_neg c88] at H;have c88b0 : (t124 == 100) = false:=beq_eq_false_iff_ne.mpr c88;have c88b1 : (t124 != 100) = true:=bne_iff_ne.mpr c88;by_cases c92 : t129 = true
                 ·subst c92;have H1 : (if t132 < 1 then (laws_FnAgreement.j2 k2 l1 t102 t104 t105 true) else (laws_FnAgreement.j2 k2 l1 t102 t104 t105 (t130.toList == t131.toList))) = some r:=by rw [if_pos rfl] at H;exact H
                  clear H;have H:=H1;clear H1;by_cases c93 : t132 < 1
                  ·rw [if_pos c93] at H;have c93b0 : decide (t132 < 1) = true:=decide_eq_true c93;clear c93;first | with_reducible exact (laws_FnAgreement.j0_no H ht_.out).elim | with_reducible exact (laws_FnAgreement.j2_no H ht_.out).elim | with_reducible exact (laws_FnAgreement.j3_no H ht_.out).elim
                  ·rw [if_neg c93] at H;have c93b0 : decide (t132 < 1) = false:=decide_eq_false c93;clear c93;have H' := Aside0.mk H;clear H;go_wp2;repeat (go_quiet (fail);try go_wp2)
                   go_meet
                   case rel=>exact ⟨_,((t130.toList == t131.toList)),(q1_),H', ⟨by have:=HJ13.out;have:=HK2.out;first | omega | exact Nat.le_refl _⟩,⟨by (with_reducible repeat (first | apply Kd.R_alloc | apply Kd.R_drewN | apply Kd.R_drew));exact Kd.R_mono HO_5.out (fun _ hk=>trivial)⟩,⟨q19_⟩⟩
                 ·replace c92:=Bool.eq_false_iff.mpr c92;subst c92;have H1 : (laws_FnAgreement.j2 k2 l1 t102 t104 t105 false) = some r:=by rw [if_neg (show ¬ (false = true) by decide)] at H;exact H
                  clear H;have H:=H1;clear H1;have H' := Aside0.mk H;clear H;go_wp2;repeat (go_quiet (fail);try go_wp2)
                  go_meet
                  case rel=>exact ⟨_,(false),(q1_),H', ⟨by have:=HJ13.out;have:=HK2.out;first | omega | exact Nat.le_refl _⟩,⟨by (with_reducible repeat (first | apply Kd.R_alloc | apply Kd.R_drewN | apply Kd.R_drew));exact Kd.R_mono HO_5.out (fun _ hk=>trivial)⟩,⟨q19_⟩⟩
              ·rw [if_neg c86] at H;have c86b0 : (t140 == 100) = false:=beq_eq_false_iff_ne.mpr c86;have c86b1 : (t140 != 100) = true:=bne_iff_ne.mpr c86;first | with_reducible exact (laws_FnAgreement.j0_no H ht_.out).elim | with_reducible exact (laws_FnAgreement.j2_no H ht_.out).elim | with_reducible exact (laws_FnAgreement.j3_no H ht_.out).elim
             ·replace c85:=Bool.eq_false_iff.mpr c85;subst c85;have H1 : (laws_FnAgreement.j2 k2 l1 t102 t104 t105 true) = some r:=by rw [if_neg (show ¬ (false = true) by decide)] at H;exact H
              clear H;have H:=H1;clear H1;first | with_reducible exact (laws_FnAgreement.j0_no H ht_.out).elim | with_reducible exact (laws_FnAgreement.j2_no H ht_.out).elim | with_reducible exact (laws_FnAgreement.j3_no H ht_.out).elim
            ·rw [if_neg c84] at H;have c84b0 : (t138 == t112) = false:=beq_eq_false_iff_ne.mpr c84;have c84b1 : (t138 != t112) = true:=bne_iff_ne.mpr c84;first | with_reducible exact (laws_FnAgreement.j0_no H ht_.out).elim | with_reducible exact (laws_FnAgreement.j2_no H ht_.out).elim | with_reducible exact (laws_FnAgreement.j3_no H ht_.out).elim
           ·replace c83:=Bool.eq_false_iff.mpr c83;subst c83;have H1 : (laws_FnAgreement.j2 k2 l1 t102 t104 t105 true) = some r:=by rw [if_neg (show ¬ (false = true) by decide)] at H;exact H
            clear H;have H:=H1;clear H1;first | with_reducible exact (laws_FnAgreement.j0_no H ht_.out).elim | with_reducible exact (laws_FnAgreement.j2_no H ht_.out).elim | with_reducible exact (laws_FnAgreement.j3_no H ht_.out).elim
          ·rw [if_neg c82] at H;have c82b0 : (x29_2 == (wrap64 (t105 - t104))) = false:=beq_eq_false_iff_ne.mpr c82;have c82b1 : (x29_2 != (wrap64 (t105 - t104))) = true:=bne_iff_ne.mpr c82
           (first | rw [c82b0] | (simp only [i64_w,i32_w];rw [c82b0]) | skip)
           first | with_reducible exact (laws_FnAgreement.j0_no H ht_.out).elim | with_reducible exact (laws_FnAgreement.j2_no H ht_.out).elim | with_reducible exact (laws_FnAgreement.j3_no H ht_.out).elim
         case rest=>as_aux_lemma =>
          clear HC79;try clear c1
          try clear c4
          try clear c26
          try clear c26b0
          try clear c26b1
          try clear c26b2
          try clear c27
          try clear c27b0
          try clear c27b1
          try clear c28
          try clear c28b0
          try clear c28b1
          try clear c28b2
          try clear c30
          try clear c31
          try clear c31b0
          try clear c31b1
          try clear c31b2
          try clear c34
          try clear c34b0
          try clear c34b1
          try clear c35
          try clear c35b0
          try clear c35b1
          try clear c35b2
          try clear c38
          try clear c38b0
          try clear c38b1
          try clear c39
          try clear c39b0
          try clear c39b1
          try clear c40
          try clear c40b0
          try clear c40b1
          try clear c41
          try clear c41b0
          try clear c41b1
          try clear c41b2
          try clear c44
          try clear c44b0
          try clear c44b1
          try clear c44b2
          try clear c47
          try clear c62
          try clear c63
          try clear c65
          try clear c65b0
          try clear c66
          try clear c66b0
          try clear c67
          try clear c67b0
          try clear c68
          try clear c68b0
          try clear c70
          try clear c70b0
          try clear c71
          try clear c71b0
          try clear c72
          try clear c72b0
          try clear c82
          try clear c82b0
          try clear c82b1
          try clear c83
          try clear c84
          try clear c84b0
          try clear c84b1
          try clear c85
          try clear c86
          try clear c86b0
          try clear c86b1
          try clear c87
          try clear c87b0
          try clear c88
          try clear c88b0
          try clear c88b1
          try clear c89
          try clear c89b0
          try clear c89b1
          try clear c90
          try clear c91
          try clear c91b0
          try clear c92
          try clear c93
          try clear c93b0
          try clear hcz74_0
          try clear hcz74_1
          try clear hcz76_0
          try clear hcz76_1
          try clear hfz74_0
          try clear hfz74_1
          try clear hfz76_0
          try clear hfz76_1
          try clear hx135_0
          try clear hx135_1
          try clear hx137_0
          try clear hx137_1
          try clear p135
          try clear p137
          try clear q135
          try clear q137
          obtain ⟨kq,x288_78,rfl,HA,HJ78,HO_5,HB⟩:=hcut;cases kq with
          | zero=>exact absurd HA.out (by simp [laws_FnAgreement.j2])
          | succ kj78 =>
           have H:=HA.out;clear HA;simp only [laws_FnAgreement.j2] at H;by_cases c94 : x288_78 = true
           ·subst c94;have H1 : (some false) = some r:=by rw [if_pos rfl] at H;exact H
            clear H;have H:=H1;clear H1;exact absurd (Option.some.inj H) (by rw [ht_.out];decide)
           ·replace c94:=Bool.eq_false_iff.mpr c94;subst c94;have H1 : ((impl_FrameGlosses.f kj78 t102 t104 t105).bind fun bt142=>((spec_FrameGlosses.f kj78 t102 t104 t105).bind fun bt146=>(if bt142.2 = true then (if bt146.2 = true then ((laws_pSameTexts.f kj78 bt142.1 bt146.1).bind fun t150=>(if t150 = true then (laws_FnAgreement.j3 kj78 l1 t102 t104 bt146.1 ((bt146.1.length : Int) != (wrap64 (t105 - t104)))) else (laws_FnAgreement.j3 kj78 l1 t102 t104 bt146.1 true))) else (laws_FnAgreement.j3 kj78 l1 t102 t104 bt146.1 true)) else (laws_FnAgreement.j3 kj78 l1 t102 t104 bt146.1 true)))) = some r:=by rw [if_neg (show ¬ (false = true) by decide)] at H;exact H
            clear H;have H:=H1;clear H1;replace H:=Option.bind_eq_some_iff.mp H;obtain ⟨⟨t142,t143⟩,A950,H⟩:=H;(try dsimp only at H);have A95:=Aside0.mk A950;clear A950;replace H:=Option.bind_eq_some_iff.mp H;obtain ⟨⟨t146,t147⟩,A960,H⟩:=H;(try dsimp only at H);have A96:=Aside0.mk A960;clear A960;have HC97:=Aside0.mk H;clear H;go_upto_region 29 with (first | (go_at_call 76;(with_reducible refine (impl_FrameGlosses.calls kj78 _ _ t102 t104 t105 t142 t143 _ ?side1 ?side2 A95.out).mono ?_);(case side1=>exact cX_ (Kd.R_reads' HO_5.out).2.2);(case side2=>exact (Kd.R_reads' HO_5.out).2.1);rintro e w98 ⟨v144,rfl,ho0,hb⟩;replace HO_5:=rB_ HO_5 hb;have HO145:=Aside0.mk (Kd.R_lower ho0 (below_size (q19_)));replace HB:=bS_ HB hb;(try clear hb);(try clear ho0)) | (go_at_call 77;(with_reducible refine (spec_FrameGlosses.calls kj78 _ _ t102 t104 t105 t146 t147 _ ?side1 ?side2 A96.out).mono ?_);(case side1=>exact cX_ (Kd.R_reads' HO_5.out).2.2);(case side2=>exact (Kd.R_reads' HO_5.out).2.1);rintro e w99 ⟨v148,rfl,ho0,hb⟩;replace HO_5:=rB_ HO_5 hb;have HO149:=Aside0.mk (Kd.R_lower (Kd.R_new' ho0 (Kd.R_lt (by (with_reducible repeat (first | apply Kd.R_alloc | apply Kd.R_drewN | apply Kd.R_drew));exact HO145.out))) (below_size (q19_)));replace HO145:=rE_ HO145 ho0 hb;replace HB:=bS_ HB hb;(try clear hb);(try clear ho0)))
            repeat (go_quiet (first | (go_at_call 76;(with_reducible refine (impl_FrameGlosses.calls kj78 _ _ t102 t104 t105 t142 t143 _ ?side1 ?side2 A95.out).mono ?_);(case side1=>exact cX_ (Kd.R_reads' HO_5.out).2.2);(case side2=>exact (Kd.R_reads' HO_5.out).2.1);rintro e w98 ⟨v144,rfl,ho0,hb⟩;replace HO_5:=rB_ HO_5 hb;have HO145:=Aside0.mk (Kd.R_lower ho0 (below_size (q19_)));replace HB:=bS_ HB hb;(try clear hb);(try clear ho0)) | (go_at_call 77;(with_reducible refine (spec_FrameGlosses.calls kj78 _ _ t102 t104 t105 t146 t147 _ ?side1 ?side2 A96.out).mono ?_);(case side1=>exact cX_ (Kd.R_reads' HO_5.out).2.2);(case side2=>exact (Kd.R_reads' HO_5.out).2.1);rintro e w99 ⟨v148,rfl,ho0,hb⟩;replace HO_5:=rB_ HO_5 hb;have HO149:=Aside0.mk (Kd.R_lower (Kd.R_new' ho0 (Kd.R_lt (by (with_reducible repeat (first | apply Kd.R_alloc | apply Kd.R_drewN | apply Kd.R_drew));exact HO145.out))) (below_size (q19_)));replace HO145:=rE_ HO145 ho0 hb;replace HB:=bS_ HB hb;(try clear hb);(try clear ho0)));go_upto_region 29 with (first | (go_at_call 76;(with_reducible refine (impl_FrameGlosses.calls kj78 _ _ t102 t104 t105 t142 t143 _ ?side1 ?side2 A95.out).mono ?_);(case side1=>exact cX_ (Kd.R_reads' HO_5.out).2.2);(case side2=>exact (Kd.R_reads' HO_5.out).2.1);rintro e w98 ⟨v144,rfl,ho0,hb⟩;replace HO_5:=rB_ HO_5 hb;have HO145:=Aside0.mk (Kd.R_lower ho0 (below_size (q19_)));replace HB:=bS_ HB hb;(try clear hb);(try clear ho0)) | (go_at_call 77;(with_reducible refine (spec_FrameGlosses.calls kj78 _ _ t102 t104 t105 t146 t147 _ ?side1 ?side2 A96.out).mono ?_);(case side1=>exact cX_ (Kd.R_reads' HO_5.out).2.2);(case side2=>exact (Kd.R_reads' HO_5.out).2.1);rintro e w99 ⟨v148,rfl,ho0,hb⟩;replace HO_5:=rB_ HO_5 hb;have HO149:=Aside0.mk (Kd.R_lower (Kd.R_new' ho0 (Kd.R_lt (by (with_reducible repeat (first | apply Kd.R_alloc | apply Kd.R_drewN | apply Kd.R_drew));exact HO145.out))) (below_size (q19_)));replace HO145:=rE_ HO145 ho0 hb;replace HB:=bS_ HB hb;(try clear hb);(try clear ho0))))
            (try simp only [Act.put,List.setIfInBounds_toArray,List.set_cons_zero,List.set_cons_succ])
            go_cut [322] (fun v322 wc=>∃ (kq : Nat) (x322_96 : Bool),v322 = .bool x322_96 ∧ Aside0 (laws_FnAgreement.j3 kq l1 t102 t104 t146 x322_96 = some r) ∧ Aside0 (kq ≤ kj78) ∧ Aside0 (Kd.R k58 58 wc w.heap.size (fun _=>True) (.slice Ao16 t102.length co16) t102) ∧ Aside0 (Kd.R Kd.string 9 wc w.heap.size (fun _=>True) v148 t146) ∧ Aside0 (Below w.heap.size w wc))
            case first=>as_aux_lemma =>
             have H:=HC97.out;clear HC97;by_cases c100 : t143 = true
             ·subst c100;have H1 : (if t147 = true then ((laws_pSameTexts.f kj78 t142 t146).bind fun t150=>(if t150 = true then (laws_FnAgreement.j3 kj78 l1 t102 t104 t146 ((t146.length : Int) != (wrap64 (t105 - t104)))) else (laws_FnAgreement.j3 kj78 l1 t102 t104 t146 true))) else (laws_FnAgreement.j3 kj78 l1 t102 t104 t146 true)) = some r:=by rw [if_pos rfl] at H;exact H
              clear H;have H:=H1;clear H1;by_cases c101 : t147 = true
              ·subst c101;have H1 : ((laws_pSameTexts.f kj78 t142 t146).bind fun t150=>(if t150 = true then (laws_FnAgreement.j3 kj78 l1 t102 t104 t146 ((t146.length : Int) != (wrap64 (t105 - t104)))) else (laws_FnAgreement.j3 kj78 l1 t102 t104 t146 true))) = some r:=by rw [if_pos rfl] at H;exact H
               clear H;have H:=H1;clear H1;replace H:=Option.bind_eq_some_iff.mp H;obtain ⟨t150,A1020,H⟩:=H;(try dsimp only at H);have A102:=Aside0.mk A1020;clear A1020;by_cases c103 : t150 = true
               ·subst c103;have H1 : (laws_FnAgreement.j3 kj78 l1 t102 t104 t146 ((t146.length : Int) != (wrap64 (t105 - t104)))) = some r:=by rw [if_pos rfl] at H;exact H
                clear H;have H:=H1;clear H1;have H' := Aside0.mk H;clear H;obtain ⟨Ao104,co104,eo104⟩:=Kd.R_slice HO145.out;subst eo104;obtain ⟨Ao105,co105,eo105⟩:=Kd.R_slice HO149.out;subst eo105;go_wp2_with (first | (go_at_call 78;(with_reducible refine (laws_pSameTexts.calls kj78 _ _ t142 _ _ t146 true _ ?side1 ?side2 ?side3 ?side4 A102.out).mono ?_);(case side1=>exact cX_ (Kd.R_reads' HO145.out).2.2);(case side2=>exact (Kd.R_reads' HO145.out).2.1);(case side3=>exact cX_ (Kd.R_reads' HO149.out).2.2);(case side4=>exact (Kd.R_reads' HO149.out).2.1);rintro e w' ⟨rfl,⟨nd,rfl⟩⟩;(try first | exact ⟨rfl,_,World.drewN_drewN _ _ _⟩ | exact ⟨rfl,_,Eq.trans (World.drewN_drewN _ _ _) (congrArg (World.drewN _) (Nat.add_assoc _ _ _))⟩)))
                repeat (go_quiet (first | (go_at_call 78;(with_reducible refine (laws_pSameTexts.calls kj78 _ _ t142 _ _ t146 true _ ?side1 ?side2 ?side3 ?side4 A102.out).mono ?_);(case side1=>exact cX_ (Kd.R_reads' HO145.out).2.2);(case side2=>exact (Kd.R_reads' HO145.out).2.1);(case side3=>exact cX_ (Kd.R_reads' HO149.out).2.2);(case side4=>exact (Kd.R_reads' HO149.out).2.1);rintro e w' ⟨rfl,⟨nd,rfl⟩⟩;(try first | exact ⟨rfl,_,World.drewN_drewN _ _ _⟩ | exact ⟨rfl,_,Eq.trans (World.drewN_drewN _ _ _) (congrArg (World.drewN _) (Nat.add_assoc _ _ _))⟩)));try go_wp2_with (first | (go_at_call 78;(with_reducible refine (laws_pSameTexts.calls kj78 _ _ t142 _ _ t146 true _ ?side1 ?side2 ?side3 ?side4 A102.out).mono ?_);(case side1=>exact cX_ (Kd.R_reads' HO145.out).2.2);(case side2=>exact (Kd.R_reads' HO145.out).2.1);(case side3=>exact cX_ (Kd.R_reads' HO149.out).2.2);(case side4=>exact (Kd.R_reads' HO149.out).2.1);rintro e w' ⟨rfl,⟨nd,rfl⟩⟩;(try first | exact ⟨rfl,_,World.drewN_drewN _ _ _⟩ | exact ⟨rfl,_,Eq.trans (World.drewN_drewN _ _ _) (congrArg (World.drewN _) (Nat.add_assoc _ _ _))⟩))))
                go_meet
                case rel=>exact ⟨_,(((t146.length : Int) != (wrap64 (t105 - t104)))),(q1_),H', ⟨by have:=HJ13.out;have:=HK2.out;have:=HJ78.out;first | omega | exact Nat.le_refl _⟩,⟨q7_⟩,⟨by (with_reducible repeat (first | apply Kd.R_alloc | apply Kd.R_drewN | apply Kd.R_drew));exact Kd.R_mono HO149.out (fun _ hk=>trivial)⟩,⟨q19_⟩⟩
               ·replace c103:=Bool.eq_false_iff.mpr c103;subst c103;have H1 : (laws_FnAgreement.j3 kj78 l1 t102 t104 t146 true) = some r:=by rw [if_neg (show ¬ (false = true) by decide)] at H;exact H
                clear H;have H:=H1;clear H1;first | with_reducible exact (laws_FnAgreement.j0_no H ht_.out).elim | with_reducible exact (laws_FnAgreement.j2_no H ht_.out).elim | with_reducible exact (laws_FnAgreement.j3_no H ht_.out).elim
              ·replace c101:=Bool.eq_false_iff.mpr c101;subst c101;have H1 : (laws_FnAgreement.j3 kj78 l1 t102 t104 t146 true) = some r:=by rw [if_neg (show ¬ (false = true) by decide)] at H;exact H
               clear H;have H:=H1;clear H1;first | with_reducible exact (laws_FnAgreement.j0_no H ht_.out).elim | with_reducible exact (laws_FnAgreement.j2_no H ht_.out).elim | with_reducible exact (laws_FnAgreement.j3_no H ht_.out).elim
             ·replace c100:=Bool.eq_false_iff.mpr c100;subst c100;have H1 : (laws_FnAgreement.j3 kj78 l1 t102 t104 t146 true) = some r:=by rw [if_neg (show ¬ (false = true) by decide)] at H;exact H
              clear H;have H:=H1;clear H1;first | with_reducible exact (laws_FnAgreement.j0_no H ht_.out).elim | with_reducible exact (laws_FnAgreement.j2_no H ht_.out).elim | with_reducible exact (laws_FnAgreement.j3_no H ht_.out).elim
            case rest=>as_aux_lemma =>
             clear HC97;try clear c1
             try clear c4
             try clear c26
             try clear c26b0
             try clear c26b1
             try clear c26b2
             try clear c27
             try clear c27b0
             try clear c27b1
             try clear c28
             try clear c28b0
             try clear c28b1
             try clear c28b2
             try clear c30
             try clear c31
             try clear c31b0
             try clear c31b1
             try clear c31b2
             try clear c34
             try clear c34b0
             try clear c34b1
             try clear c35
             try clear c35b0
             try clear c35b1
             try clear c35b2
             try clear c38
             try clear c38b0
             try clear c38b1
             try clear c39
             try clear c39b0
             try clear c39b1
             try clear c40
             try clear c40b0
             try clear c40b1
             try clear c41
             try clear c41b0
             try clear c41b1
             try clear c41b2
             try clear c44
             try clear c44b0
             try clear c44b1
             try clear c44b2
             try clear c47
             try clear c62
             try clear c63
             try clear c65
             try clear c65b0
             try clear c66
             try clear c66b0
             try clear c67
             try clear c67b0
             try clear c68
             try clear c68b0
             try clear c70
             try clear c70b0
             try clear c71
             try clear c71b0
             try clear c72
             try clear c72b0
             try clear c82
             try clear c82b0
             try clear c82b1
             try clear c83
             try clear c84
             try clear c84b0
             try clear c84b1
             try clear c85
             try clear c86
             try clear c86b0
             try clear c86b1
             try clear c87
             try clear c87b0
             try clear c88
             try clear c88b0
             try clear c88b1
             try clear c89
             try clear c89b0
             try clear c89b1
             try clear c90
             try clear c91
             try clear c91b0
             try clear c92
             try clear c93
             try clear c93b0
             try clear c94
             try clear c100
             try clear c101
             try clear c103
             try clear hcz74_0
             try clear hcz74_1
             try clear hcz76_0
             try clear hcz76_1
             try clear hfz74_0
             try clear hfz74_1
             try clear hfz76_0
             try clear hfz76_1
             try clear hx135_0
             try clear hx135_1
             try clear hx137_0
             try clear hx137_1
             try clear p135
             try clear p137
             try clear q135
             try clear q137
             obtain ⟨kq,x322_96,rfl,HA,HJ96,HO_5,HO_38,HB⟩:=hcut;cases kq with
             | zero=>exact absurd HA.out (by simp [laws_FnAgreement.j3])
             | succ kj96 =>
              have H:=HA.out;clear HA;simp only [laws_FnAgreement.j3] at H;by_cases c108 : x322_96 = true
              ·subst c108;have H1 : (some false) = some r:=by rw [if_pos rfl] at H;exact H
               clear H;have H:=H1;clear H1;exact absurd (Option.some.inj H) (by rw [ht_.out];decide)
              ·replace c108:=Bool.eq_false_iff.mpr c108;subst c108;have H1 : (laws_FnAgreement.l1 kj96 l1 t102 t104 t146 (t146.length : Int) 0) = some r:=by rw [if_neg (show ¬ (false = true) by decide)] at H;exact H
               clear H;have H:=H1;clear H1;have H' := Aside0.mk H;clear H;obtain ⟨Ao109,co109,eo109⟩:=Kd.R_slice HO_38.out;subst eo109;go_wp2;repeat (go_quiet (fail);try go_wp2)
               go_loopg [325] kj96 (fun kq v325 w' => ∃ (x325_5 : Int),v325 = .int .i64 x325_5 ∧ Aside0 (laws_FnAgreement.l1 kq l1 t102 t104 t146 (t146.length : Int) x325_5 = some r) ∧ Aside0 (kq ≤ kj96) ∧ Aside0 (Kd.R k58 58 w' w.heap.size (fun _=>True) (.slice Ao16 t102.length co16) t102) ∧ Aside0 (Kd.R Kd.string 9 w' w.heap.size (fun _=>True) (.slice Ao109 t146.length co109) t146) ∧ Aside0 (Below w.heap.size w w'))
               case atStart=>exact ⟨(0),(q1_),H', ⟨Nat.le_refl _⟩,⟨q7_⟩,⟨by (with_reducible repeat (first | apply Kd.R_alloc | apply Kd.R_drewN | apply Kd.R_drew));exact HO_38.out⟩,⟨q19_⟩⟩
               case round =>
                clear H';try clear c1
                try clear c4
                try clear c26
                try clear c26b0
                try clear c26b1
                try clear c26b2
                try clear c27
                try clear c27b0
                try clear c27b1
                try clear c28
                try clear c28b0
                try clear c28b1
                try clear c28b2
                try clear c30
                try clear c31
                try clear c31b0
                try clear c31b1
                try clear c31b2
                try clear c34
                try clear c34b0
                try clear c34b1
                try clear c35
                try clear c35b0
                try clear c35b1
                try clear c35b2
                try clear c38
                try clear c38b0
                try clear c38b1
                try clear c39
                try clear c39b0
                try clear c39b1
                try clear c40
                try clear c40b0
                try clear c40b1
                try clear c41
                try clear c41b0
                try clear c41b1
                try clear c41b2
                try clear c44
                try clear c44b0
                try clear c44b1
                try clear c44b2
                try clear c47
                try clear c62
                try clear c63
                try clear c65
                try clear c65b0
                try clear c66
                try clear c66b0
                try clear c67
                try clear c67b0
                try clear c68
                try clear c68b0
                try clear c70
                try clear c70b0
                try clear c71
                try clear c71b0
                try clear c72
                try clear c72b0
                try clear c82
                try clear c82b0
                try clear c82b1
                try clear c83
                try clear c84
                try clear c84b0
                try clear c84b1
                try clear c85
                try clear c86
                try clear c86b0
                try clear c86b1
                try clear c87
                try clear c87b0
                try clear c88
                try clear c88b0
                try clear c88b1
                try clear c89
                try clear c89b0
                try clear c89b1
                try clear c90
                try clear c91
                try clear c91b0
                try clear c92
                try clear c93
                try clear c93b0
                try clear c94
                try clear c100
                try clear c101
                try clear c103
                try clear c108
                try clear hcz74_0
                try clear hcz74_1
                try clear hcz76_0
                try clear hcz76_1
                try clear hfz74_0
                try clear hfz74_1
                try clear hfz76_0
                try clear hfz76_1
                try clear hx135_0
                try clear hx135_1
                try clear hx137_0
                try clear hx137_1
                try clear p135
                try clear p137
                try clear q135
                try clear q137
                obtain ⟨x325_5,rfl,HA,HK5,HO_5,HO_323,HB⟩:=hrel;cases gk with
                | zero=>exact absurd HA.out (by simp [laws_FnAgreement.l1])
                | succ k5 =>
                 have H:=HA.out;clear HA;simp only [laws_FnAgreement.l1] at H;by_cases c110 : x325_5 < (t146.length : Int)
                 ·rw [if_pos c110] at H;have c110b0 : decide (x325_5 < (t146.length : Int)) = true:=decide_eq_true c110;clear c110;by_cases c111 : 0 ≤ x325_5
                  ·rw [if_pos c111] at H;have c111b0 : decide (0 ≤ x325_5) = true:=decide_eq_true c111;clear c111;by_cases c112 : x325_5 < (t146.length : Int)
                   ·rw [if_pos c112] at H;have c112b0 : decide (x325_5 < (t146.length : Int)) = true:=decide_eq_true c112;clear c112;replace H:=Option.bind_eq_some_iff.mp H;obtain ⟨⟨t152,t153⟩,A1130,H⟩:=H;(try dsimp only at H);have A113:=Aside0.mk A1130;clear A1130;by_cases c114 : t153 = true
                    ·subst c114;have H1 : (if t152.toList = (rdOf ByteArray.empty t146 x325_5).toList then (laws_FnAgreement.l1 k5 l1 t102 t104 t146 (t146.length : Int) (wrap64 (x325_5 + 1))) else (some false)) = some r:=by rw [if_pos rfl] at H;exact H
                     clear H;have H:=H1;clear H1;by_cases c115 : t152.toList = (rdOf ByteArray.empty t146 x325_5).toList
                     ·rw [if_pos c115] at H;have c115b0 : (t152.toList == (rdOf ByteArray.empty t146 x325_5).toList) = true:=beq_iff_eq.mpr c115;have c115b1 : (t152.toList != (rdOf ByteArray.empty t146 x325_5).toList) = false:=bne_eq_false_iff_eq.mpr c115;clear c115;have H' := Aside0.mk H;clear H;have p151 : 0 ≤ (x325_5 : Int):=of_decide_eq_true (q2_);have q151 : x325_5 < (t146.length : Int):=of_decide_eq_true (q2_);obtain ⟨ad151,e151,hx151_0⟩:=Kd.at_string (Kd.R_reads' HO_323.out).2.2 x325_5 p151 q151;cases e151;replace p151:=eq_true p151;replace q151:=eq_true q151;go_wp2_with (first | (go_at_call 79;(with_reducible refine (impl_GlossAt.calls k5 _ _ t102 (wrap64 (t104 + x325_5)) t152 true _ ?side1 ?side2 A113.out).mono ?_);(case side1=>exact cX_ (Kd.R_reads' HO_5.out).2.2);(case side2=>exact (Kd.R_reads' HO_5.out).2.1);rintro e w116 ⟨rfl,hb⟩;replace HO_5:=rB_ HO_5 hb;replace HO_323:=rB_ HO_323 hb;replace HB:=bS_ HB hb;(try clear hb)))
                      repeat (go_quiet (first | (go_at_call 79;(with_reducible refine (impl_GlossAt.calls k5 _ _ t102 (wrap64 (t104 + x325_5)) t152 true _ ?side1 ?side2 A113.out).mono ?_);(case side1=>exact cX_ (Kd.R_reads' HO_5.out).2.2);(case side2=>exact (Kd.R_reads' HO_5.out).2.1);rintro e w116 ⟨rfl,hb⟩;replace HO_5:=rB_ HO_5 hb;replace HO_323:=rB_ HO_323 hb;replace HB:=bS_ HB hb;(try clear hb)));try go_wp2_with (first | (go_at_call 79;(with_reducible refine (impl_GlossAt.calls k5 _ _ t102 (wrap64 (t104 + x325_5)) t152 true _ ?side1 ?side2 A113.out).mono ?_);(case side1=>exact cX_ (Kd.R_reads' HO_5.out).2.2);(case side2=>exact (Kd.R_reads' HO_5.out).2.1);rintro e w116 ⟨rfl,hb⟩;replace HO_5:=rB_ HO_5 hb;replace HO_323:=rB_ HO_323 hb;replace HB:=bS_ HB hb;(try clear hb))))
                      go_roundg k5
                      case measure=>have:=HJ13.out;have:=HK2.out;have:=HJ78.out;have:=HJ96.out;have:=HK5.out;omega
                      case rel=>exact ⟨(wrap64 (x325_5 + 1)),(q1_),H', ⟨by have:=HJ13.out;have:=HK2.out;have:=HJ78.out;have:=HJ96.out;have:=HK5.out;omega⟩,⟨q7_⟩,⟨by (with_reducible repeat (first | apply Kd.R_alloc | apply Kd.R_drewN | apply Kd.R_drew));exact HO_323.out⟩,⟨q19_⟩⟩
                     ·rw [if_neg c115] at H;have c115b0 : (t152.toList == (rdOf ByteArray.empty t146 x325_5).toList) = false:=beq_eq_false_iff_ne.mpr c115;have c115b1 : (t152.toList != (rdOf ByteArray.empty t146 x325_5).toList) = true:=bne_iff_ne.mpr c115;exact absurd (Option.some.inj H) (by rw [ht_.out];decide)
                    ·replace c114:=Bool.eq_false_iff.mpr c114;subst c114;have H1 : (some false) = some r:=by rw [if_neg (show ¬ (false = true) by decide)] at H;exact H
                     clear H;have H:=H1;clear H1;exact absurd (Option.some.inj H) (by rw [ht_.out];decide)
                   ·rw [if_neg c112] at H;exact absurd H (by simp)
                  ·rw [if_neg c111] at H;exact absurd H (by simp)
                 ·rw [if_neg c110] at H;have c110b0 : decide (x325_5 < (t146.length : Int)) = false:=decide_eq_false c110;clear c110;replace H:=Option.bind_eq_some_iff.mp H;obtain ⟨⟨t154,t155⟩,A1170,H⟩:=H;(try dsimp only at H);have A117:=Aside0.mk A1170;clear A1170;replace H:=Option.bind_eq_some_iff.mp H;obtain ⟨⟨t158,t159⟩,A1180,H⟩:=H;(try dsimp only at H);have A118:=Aside0.mk A1180;clear A1180;replace H:=Option.bind_eq_some_iff.mp H;obtain ⟨⟨t160,t161⟩,A1190,H⟩:=H;(try dsimp only at H);have A119:=Aside0.mk A1190;clear A1190;by_cases c120 : (t159 == t161) = true
                  ·rw [if_pos c120] at H;have c120b0 : (t159 == t161) = true:=c120
                   (try (have c120b1 : decide (t159 = t161) = true:=by simpa using c120))
                   (try (have c120b2 : (t159 == t161) = true:=by simpa using c120))
                   clear c120;obtain rfl:=Option.some.inj H;go_wp2_with (first | (go_at_call 80;(with_reducible refine (spec_DrawGlossAt.calls k5 _ _ l1 t154 t155 _ ?side1 ?side2 A117.out).mono ?_);(case side1=>exact cX_ (Kd.C_below HR1.out HB.out));(case side2=>exact HC1.out);rintro e w121 ⟨v156,rfl,ho0,hb⟩;replace HO_323:=rB_ HO_323 hb;have HO157:=Aside0.mk (Kd.R_lower (Kd.R_new' ho0 (Kd.R_lt (q7_))) (below_size (q19_)));replace HO_5:=rE_ HO_5 ho0 hb;replace HB:=bS_ HB hb;(try clear hb);(try clear ho0);obtain ⟨Ao122,co122,eo122⟩:=Kd.R_slice HO157.out;subst eo122) | (go_at_call 79;(with_reducible refine (impl_GlossAt.calls k5 _ _ t154 t155 t158 t159 _ ?side1 ?side2 A118.out).mono ?_);(case side1=>exact cX_ (Kd.R_reads' HO157.out).2.2);(case side2=>exact (Kd.R_reads' HO157.out).2.1);rintro e w123 ⟨rfl,hb⟩;replace HO_5:=rB_ HO_5 hb;replace HO_323:=rB_ HO_323 hb;replace HO157:=rB_ HO157 hb;replace HB:=bS_ HB hb;(try clear hb)) | (go_at_call 81;(with_reducible refine (spec_GlossAt.calls k5 _ _ t154 t155 t160 t161 _ ?side1 ?side2 A119.out).mono ?_);(case side1=>exact cX_ (Kd.R_reads' HO157.out).2.2);(case side2=>exact (Kd.R_reads' HO157.out).2.1);rintro e w124 ⟨rfl,hb⟩;replace HO_5:=rB_ HO_5 hb;replace HO_323:=rB_ HO_323 hb;replace HO157:=rB_ HO157 hb;replace HB:=bS_ HB hb;(try clear hb)))
                   repeat (go_quiet (first | (go_at_call 80;(with_reducible refine (spec_DrawGlossAt.calls k5 _ _ l1 t154 t155 _ ?side1 ?side2 A117.out).mono ?_);(case side1=>exact cX_ (Kd.C_below HR1.out HB.out));(case side2=>exact HC1.out);rintro e w121 ⟨v156,rfl,ho0,hb⟩;replace HO_323:=rB_ HO_323 hb;have HO157:=Aside0.mk (Kd.R_lower (Kd.R_new' ho0 (Kd.R_lt (q7_))) (below_size (q19_)));replace HO_5:=rE_ HO_5 ho0 hb;replace HB:=bS_ HB hb;(try clear hb);(try clear ho0);obtain ⟨Ao122,co122,eo122⟩:=Kd.R_slice HO157.out;subst eo122) | (go_at_call 79;(with_reducible refine (impl_GlossAt.calls k5 _ _ t154 t155 t158 t159 _ ?side1 ?side2 A118.out).mono ?_);(case side1=>exact cX_ (Kd.R_reads' HO157.out).2.2);(case side2=>exact (Kd.R_reads' HO157.out).2.1);rintro e w123 ⟨rfl,hb⟩;replace HO_5:=rB_ HO_5 hb;replace HO_323:=rB_ HO_323 hb;replace HO157:=rB_ HO157 hb;replace HB:=bS_ HB hb;(try clear hb)) | (go_at_call 81;(with_reducible refine (spec_GlossAt.calls k5 _ _ t154 t155 t160 t161 _ ?side1 ?side2 A119.out).mono ?_);(case side1=>exact cX_ (Kd.R_reads' HO157.out).2.2);(case side2=>exact (Kd.R_reads' HO157.out).2.1);rintro e w124 ⟨rfl,hb⟩;replace HO_5:=rB_ HO_5 hb;replace HO_323:=rB_ HO_323 hb;replace HO157:=rB_ HO157 hb;replace HB:=bS_ HB hb;(try clear hb)));try go_wp2_with (first | (go_at_call 80;(with_reducible refine (spec_DrawGlossAt.calls k5 _ _ l1 t154 t155 _ ?side1 ?side2 A117.out).mono ?_);(case side1=>exact cX_ (Kd.C_below HR1.out HB.out));(case side2=>exact HC1.out);rintro e w121 ⟨v156,rfl,ho0,hb⟩;replace HO_323:=rB_ HO_323 hb;have HO157:=Aside0.mk (Kd.R_lower (Kd.R_new' ho0 (Kd.R_lt (q7_))) (below_size (q19_)));replace HO_5:=rE_ HO_5 ho0 hb;replace HB:=bS_ HB hb;(try clear hb);(try clear ho0);obtain ⟨Ao122,co122,eo122⟩:=Kd.R_slice HO157.out;subst eo122) | (go_at_call 79;(with_reducible refine (impl_GlossAt.calls k5 _ _ t154 t155 t158 t159 _ ?side1 ?side2 A118.out).mono ?_);(case side1=>exact cX_ (Kd.R_reads' HO157.out).2.2);(case side2=>exact (Kd.R_reads' HO157.out).2.1);rintro e w123 ⟨rfl,hb⟩;replace HO_5:=rB_ HO_5 hb;replace HO_323:=rB_ HO_323 hb;replace HO157:=rB_ HO157 hb;replace HB:=bS_ HB hb;(try clear hb)) | (go_at_call 81;(with_reducible refine (spec_GlossAt.calls k5 _ _ t154 t155 t160 t161 _ ?side1 ?side2 A119.out).mono ?_);(case side1=>exact cX_ (Kd.R_reads' HO157.out).2.2);(case side2=>exact (Kd.R_reads' HO157.out).2.1);rintro e w124 ⟨rfl,hb⟩;replace HO_5:=rB_ HO_5 hb;replace HO_323:=rB_ HO_323 hb;replace HO157:=rB_ HO157 hb;replace HB:=bS_ HB hb;(try clear hb))))
                   go_ret;exact ⟨q4_,q19_⟩
                  ·rw [if_neg c120] at H;have c120b0 : (t159 == t161) = false:=by simpa using c120
                   (try (have c120b1 : decide (t159 = t161) = false:=by simpa using c120))
                   (try (have c120b2 : (t159 == t161) = false:=by simpa using c120))
                   (try (have c120b3 : ¬ (t159 = t161):=by simpa using c120))
                   clear c120;exact absurd (Option.some.inj H) (by rw [ht_.out];decide)
     ·replace c63:=Bool.eq_false_iff.mpr c63;subst c63;have H1 : ((spec_DrawGlossAt.f kj13 l1).bind fun bt162=>((impl_GlossAt.f kj13 bt162.1 bt162.2).bind fun bt166=>((spec_GlossAt.f kj13 bt162.1 bt162.2).bind fun bt168=>(if (bt166.2 == bt168.2) = true then (some (bt166.1.toList == bt168.1.toList)) else (some false))))) = some r:=by rw [if_neg (show ¬ (false = true) by decide)] at H;exact H
      clear H;have H:=H1;clear H1;replace H:=Option.bind_eq_some_iff.mp H;obtain ⟨⟨t162,t163⟩,A1250,H⟩:=H;(try dsimp only at H);have A125:=Aside0.mk A1250;clear A1250;replace H:=Option.bind_eq_some_iff.mp H;obtain ⟨⟨t166,t167⟩,A1260,H⟩:=H;(try dsimp only at H);have A126:=Aside0.mk A1260;clear A1260;replace H:=Option.bind_eq_some_iff.mp H;obtain ⟨⟨t168,t169⟩,A1270,H⟩:=H;(try dsimp only at H);have A127:=Aside0.mk A1270;clear A1270;by_cases c128 : (t167 == t169) = true
      ·rw [if_pos c128] at H;have c128b0 : (t167 == t169) = true:=c128
       (try (have c128b1 : decide (t167 = t169) = true:=by simpa using c128))
       (try (have c128b2 : (t167 == t169) = true:=by simpa using c128))
       clear c128;obtain rfl:=Option.some.inj H;go_wp2_with (first | (go_at_call 80;(with_reducible refine (spec_DrawGlossAt.calls kj13 _ _ l1 t162 t163 _ ?side1 ?side2 A125.out).mono ?_);(case side1=>exact cX_ (Kd.C_below HR1.out HB.out));(case side2=>exact HC1.out);rintro e w129 ⟨v164,rfl,ho0,hb⟩;replace HO_15:=rB_ HO_15 hb;have HO165:=Aside0.mk (Kd.R_lower (Kd.R_new' (Kd.R_new' ho0 (Kd.R_lt (q7_))) (Kd.Q_lt (q8_))) (below_size (q19_)));replace HO_5:=rE_ HO_5 ho0 hb;replace HO_6:=Aside0.mk (Kd.Q_elder' (q8_) (Kd.R_base ho0) hb);replace HB:=bS_ HB hb;(try clear hb);(try clear ho0);obtain ⟨Ao130,co130,eo130⟩:=Kd.R_slice HO165.out;subst eo130) | (go_at_call 79;(with_reducible refine (impl_GlossAt.calls kj13 _ _ t162 t163 t166 t167 _ ?side1 ?side2 A126.out).mono ?_);(case side1=>exact cX_ (Kd.R_reads' HO165.out).2.2);(case side2=>exact (Kd.R_reads' HO165.out).2.1);rintro e w131 ⟨rfl,hb⟩;replace HO_5:=rB_ HO_5 hb;replace HO_6:=Aside0.mk (Kd.Q_below (q8_) hb);replace HO_15:=rB_ HO_15 hb;replace HO165:=rB_ HO165 hb;replace HB:=bS_ HB hb;(try clear hb)) | (go_at_call 81;(with_reducible refine (spec_GlossAt.calls kj13 _ _ t162 t163 t168 t169 _ ?side1 ?side2 A127.out).mono ?_);(case side1=>exact cX_ (Kd.R_reads' HO165.out).2.2);(case side2=>exact (Kd.R_reads' HO165.out).2.1);rintro e w132 ⟨rfl,hb⟩;replace HO_5:=rB_ HO_5 hb;replace HO_6:=Aside0.mk (Kd.Q_below (q8_) hb);replace HO_15:=rB_ HO_15 hb;replace HO165:=rB_ HO165 hb;replace HB:=bS_ HB hb;(try clear hb)))
       repeat (go_quiet (first | (go_at_call 80;(with_reducible refine (spec_DrawGlossAt.calls kj13 _ _ l1 t162 t163 _ ?side1 ?side2 A125.out).mono ?_);(case side1=>exact cX_ (Kd.C_below HR1.out HB.out));(case side2=>exact HC1.out);rintro e w129 ⟨v164,rfl,ho0,hb⟩;replace HO_15:=rB_ HO_15 hb;have HO165:=Aside0.mk (Kd.R_lower (Kd.R_new' (Kd.R_new' ho0 (Kd.R_lt (q7_))) (Kd.Q_lt (q8_))) (below_size (q19_)));replace HO_5:=rE_ HO_5 ho0 hb;replace HO_6:=Aside0.mk (Kd.Q_elder' (q8_) (Kd.R_base ho0) hb);replace HB:=bS_ HB hb;(try clear hb);(try clear ho0);obtain ⟨Ao130,co130,eo130⟩:=Kd.R_slice HO165.out;subst eo130) | (go_at_call 79;(with_reducible refine (impl_GlossAt.calls kj13 _ _ t162 t163 t166 t167 _ ?side1 ?side2 A126.out).mono ?_);(case side1=>exact cX_ (Kd.R_reads' HO165.out).2.2);(case side2=>exact (Kd.R_reads' HO165.out).2.1);rintro e w131 ⟨rfl,hb⟩;replace HO_5:=rB_ HO_5 hb;replace HO_6:=Aside0.mk (Kd.Q_below (q8_) hb);replace HO_15:=rB_ HO_15 hb;replace HO165:=rB_ HO165 hb;replace HB:=bS_ HB hb;(try clear hb)) | (go_at_call 81;(with_reducible refine (spec_GlossAt.calls kj13 _ _ t162 t163 t168 t169 _ ?side1 ?side2 A127.out).mono ?_);(case side1=>exact cX_ (Kd.R_reads' HO165.out).2.2);(case side2=>exact (Kd.R_reads' HO165.out).2.1);rintro e w132 ⟨rfl,hb⟩;replace HO_5:=rB_ HO_5 hb;replace HO_6:=Aside0.mk (Kd.Q_below (q8_) hb);replace HO_15:=rB_ HO_15 hb;replace HO165:=rB_ HO165 hb;replace HB:=bS_ HB hb;(try clear hb)));try go_wp2_with (first | (go_at_call 80;(with_reducible refine (spec_DrawGlossAt.calls kj13 _ _ l1 t162 t163 _ ?side1 ?side2 A125.out).mono ?_);(case side1=>exact cX_ (Kd.C_below HR1.out HB.out));(case side2=>exact HC1.out);rintro e w129 ⟨v164,rfl,ho0,hb⟩;replace HO_15:=rB_ HO_15 hb;have HO165:=Aside0.mk (Kd.R_lower (Kd.R_new' (Kd.R_new' ho0 (Kd.R_lt (q7_))) (Kd.Q_lt (q8_))) (below_size (q19_)));replace HO_5:=rE_ HO_5 ho0 hb;replace HO_6:=Aside0.mk (Kd.Q_elder' (q8_) (Kd.R_base ho0) hb);replace HB:=bS_ HB hb;(try clear hb);(try clear ho0);obtain ⟨Ao130,co130,eo130⟩:=Kd.R_slice HO165.out;subst eo130) | (go_at_call 79;(with_reducible refine (impl_GlossAt.calls kj13 _ _ t162 t163 t166 t167 _ ?side1 ?side2 A126.out).mono ?_);(case side1=>exact cX_ (Kd.R_reads' HO165.out).2.2);(case side2=>exact (Kd.R_reads' HO165.out).2.1);rintro e w131 ⟨rfl,hb⟩;replace HO_5:=rB_ HO_5 hb;replace HO_6:=Aside0.mk (Kd.Q_below (q8_) hb);replace HO_15:=rB_ HO_15 hb;replace HO165:=rB_ HO165 hb;replace HB:=bS_ HB hb;(try clear hb)) | (go_at_call 81;(with_reducible refine (spec_GlossAt.calls kj13 _ _ t162 t163 t168 t169 _ ?side1 ?side2 A127.out).mono ?_);(case side1=>exact cX_ (Kd.R_reads' HO165.out).2.2);(case side2=>exact (Kd.R_reads' HO165.out).2.1);rintro e w132 ⟨rfl,hb⟩;replace HO_5:=rB_ HO_5 hb;replace HO_6:=Aside0.mk (Kd.Q_below (q8_) hb);replace HO_15:=rB_ HO_15 hb;replace HO165:=rB_ HO165 hb;replace HB:=bS_ HB hb;(try clear hb))))
       go_ret;exact ⟨q4_,q19_⟩
      ·rw [if_neg c128] at H;have c128b0 : (t167 == t169) = false:=by simpa using c128
       (try (have c128b1 : decide (t167 = t169) = false:=by simpa using c128))
       (try (have c128b2 : (t167 == t169) = false:=by simpa using c128))
       (try (have c128b3 : ¬ (t167 = t169):=by simpa using c128))
       clear c128;exact absurd (Option.some.inj H) (by rw [ht_.out];decide)
def laws_FnAgreement.Pure : Prop:=∀ (l0 : List Int) (l1 : List Int),((∀ a_,a_ ∈ l0 → (Lit.int .u8 a_).wf = true) ∧ l0.length * 1 ≤ 140737488351232) → ((∀ a_,a_ ∈ l1 → (Lit.int .u8 a_).wf = true) ∧ l1.length * 1 ≤ 140737488351232) → ∃ k,laws_FnAgreement.f k l0 l1 = some true
theorem laws_FnAgreement.walk (P : laws_FnAgreement.Pure) (A0 : Option Addr) (c0 : Nat) (l0 : List Int) (A1 : Option Addr) (c1 : Nat) (l1 : List Int) (w : World) (hr0 : Kd.C (Kd.int .u8) w A0 l0.length l0) (hc0 : l0.length ≤ c0) (hr1 : Kd.C (Kd.int .u8) w A1 l1.length l1) (hc1 : l1.length ≤ c1) (b0 : ((∀ a_,a_ ∈ l0 → (Lit.int .u8 a_).wf = true) ∧ l0.length * 1 ≤ 140737488351232)) (b1 : ((∀ a_,a_ ∈ l1 → (Lit.int .u8 a_).wf = true) ∧ l1.length * 1 ≤ 140737488351232)) :
  Calls Try.prog 9 #[.slice A0 l0.length c0,.slice A1 l1.length c1] w fun e w' => e = .returned (.bool true) ∧ Below w.heap.size w w' := by
 obtain ⟨k,h⟩:=P l0 l1 b0 b1;refine (laws_FnAgreement.calls k A0 c0 l0 A1 c1 l1 true w hr0 hc0 hr1 hc1 ⟨rfl⟩ h).mono ?_;rintro e w' ⟨rfl,hd⟩;exact ⟨rfl,hd⟩
end Go.Proofs.Ytgapcmmhbegdeaa.G
