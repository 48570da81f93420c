-- Written by this session's own program over the kit's print (wip/tools/myprint.py); Lean checks it.
import Derived.Test.YtgapcmmhbegdeaaMBase
import Derived.Test.YtgapcmmhbegdeaaG0
import Derived.Test.YtgapcmmhbegdeaaG1
import Derived.Test.YtgapcmmhbegdeaaG9
namespace Go.Proofs.Ytgapcmmhbegdeaa.G
open Go.RowKit Go.Proofs.YtgapcmmhbegdeaaW.PrintWords Go.Proofs.YtgapcmmhbegdeaaW.PrintLast Go.Proofs.YtgapcmmhbegdeaaW.PrintMore
attribute [local go_sem] max2_int min2_int max_two min_two max_three min_three max_four min_four str_geq str_gtr str_leq   -- for this text's walks alone
set_option linter.unusedVariables false
set_option linter.unusedSimpArgs false
/-! ### impl_noteAt: function 150 -/
def impl_noteAt.p (a1 : Int) (x : S58) : Bool:=decide (x.f0 ≤ a1 ∧ a1 ≤ wrap64 (x.f1 - 1))
def impl_noteAt.f (l0 : List S58) (a1 : Int) : Option (Int):=some (idxOf (impl_noteAt.p a1) l0)
theorem impl_noteAt.test (a1 : Int) (x : S58) : impl_within.f a1 x.f0 (wrap64 (x.f1 - 1)) = some (impl_noteAt.p a1 x):=by
 unfold impl_within.f impl_noteAt.p;by_cases h : a1 ≥ x.f0
 ·rw [if_pos h];simp [show x.f0 ≤ a1 from h]
 ·rw [if_neg h];simp [show ¬ x.f0 ≤ a1 from h]
set_option maxHeartbeats 4000000 in
set_option maxRecDepth 100000 in
theorem impl_noteAt.pred (a1 : Int) (B : Nat) (w : World) (hB : B < w.heap.size) (hcell : w.cell? ⟨B,0,none⟩ = some (.int .i64 a1)) (W : World) (x : S58) (hb : Below w.heap.size w W) :
  Calls Try.prog 231 (#[.agg #[.int .i64 x.f0,.int .i64 x.f1,.string x.f2]] ++ #[.pointer (some ⟨B,0,none⟩)]) W fun e w' => e = .returned (.bool (impl_noteAt.p a1 x)) ∧ Below w.heap.size w w' := by
 have hc : W.cell? ⟨B,0,none⟩ = some (.int .i64 a1):=(hb.cell (p:=⟨B,0,none⟩) hB).trans hcell;have hBW : B < W.heap.size:=Nat.lt_of_lt_of_le hB hb.size;have hne : B ≠ W.heap.size:=by omega
 have HT:=impl_noteAt.test a1 x;have HB:=Aside0.mk hb;clear hcell hb hB;generalize impl_noteAt.p a1 x = q at HT ⊢;have HT' := Aside0.mk HT;clear HT;show Calls Try.prog 231 #[.agg #[.int .i64 x.f0,.int .i64 x.f1,.string x.f2],.pointer (some ⟨B,0,none⟩)] W _;go_enter Try.func231,Try.ntmps231
 go_wp2_with (go_at_call 132;refine (impl_within.calls _ _ _ _ _ HT'.out).mono ?_;rintro e w' ⟨rfl,⟨nd,rfl⟩⟩)
 go_ret;exact ⟨rfl,pw_below_drewN (HB.out.alloc HB.out.size _) _⟩
set_option maxHeartbeats 4000000 in
set_option maxRecDepth 100000 in
theorem impl_noteAt.calls (A0 : Option Addr) (c0 : Nat) (l0 : List S58) (a1 : Int) (r : Int) (w : World) (hr0 : Kd.C k58 w A0 l0.length l0) (hc0 : l0.length ≤ c0) (h : impl_noteAt.f l0 a1 = some r) :
  Calls Try.prog 150 #[.slice A0 l0.length c0,.int .i64 a1] w fun e w' => e = .returned (.int .i64 r) ∧ Below w.heap.size w w' := by
 obtain rfl:=Option.some.inj h;clear h;have eg : ∀ args w,(callFunc 231 args).run Try.prog w = .ok (.enter 231 args) w:=goes_in Try.func231 (by kernel_rfl) rfl
 have HC:=Aside0.mk (slices_IndexFunc_Note_230.with (impl_noteAt.p a1) 231 #[.pointer (some ⟨w.heap.size,0,none⟩)] eg A0 c0 l0 (w.alloc (.cells #[.int .i64 a1] 3)) (Kd.C_below hr0 ((Below.refl _ w).alloc (Nat.le_refl _) _))
  (fun W x hb=>impl_noteAt.pred a1 w.heap.size (w.alloc (.cells #[.int .i64 a1] 3)) (by simp) (by simp) W x hb))
 clear hr0 hc0 eg;generalize idxOf (impl_noteAt.p a1) l0 = q at HC ⊢;go_enter Try.func150,Try.ntmps150
 go_wp2_with fail
 refine HC.out.mono ?_;clear HC;rintro e w' ⟨rfl,hb'⟩;have HB' := Aside0.mk hb';clear hb';go_wp2;go_ret;exact ⟨rfl,((Below.refl _ w).alloc (Nat.le_refl _) _).trans (HB'.out.mono (by simp))⟩
end Go.Proofs.Ytgapcmmhbegdeaa.G
