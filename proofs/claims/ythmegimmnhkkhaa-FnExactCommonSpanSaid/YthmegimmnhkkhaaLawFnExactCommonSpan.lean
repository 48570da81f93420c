/- FnExactCommonSpan: the row of the law out of its pure statement and the walk, written by this session's program (wip/tools) after the kit's own form of a row. No condition. -/
import Derived.Test.YthmegimmnhkkhaaRows
import Derived.Test.YthmegimmnhkkhaaG6
import Derived.Test.YthmegimmnhkkhaaPureFnExactCommonSpan
import Derived.WalkKit
import Derived.ProofKit
import Derived.OpenShut
import Derived.ShutString
import Derived.ChangeOld
import Derived.Below
import Derived.SizedLaws
namespace Go.Proofs.Ythmegimmnhkkhaa.fnExactCommonSpan
open Go.ChangeShapes Go.WideShapes Go.ChangeAt Go.RowKit Go.Joins Go.Proofs.YthmegimmnhkkhaaW.PrintWords Go.Proofs.Ythmegimmnhkkhaa.G
open Go.ChangeMaps (open_string shut_string)
theorem own : ownKnob Try.prog.godebug = none := by kernel_rfl
theorem laidOut : laidOutB Try.prog = true := by kernel_rfl
def gT26 (x : S26) : Prop := (Lit.int .i64 x.f0).wf = true ∧ (Lit.int .i64 x.f1).wf = true
theorem rdT26 : Rd Try.prog 26 k26 gT26 := rd_imp (rd_struct2 S26.mk (fun x : S26 => (x.f0, x.f1)) (fun _ _ => rfl) Try.underlying26 (by kernel_rfl) rfl rfl (by kernel_rfl) (by kernel_rfl) (rd_int .i64 Try.underlying3) (rd_int .i64 Try.underlying3)) (fun _ h => h)
set_option maxRecDepth 100000 in
theorem lifted (os : Os) (started : os.Started) (H : Type) (enc : TypeId × Value → H) :
    ReturnsInHanded {} Try.checked os 7 .any (Rows.fnExactCommonSpanSpec.pre6 enc Try.prog Try.f7 Rows.fnExactCommonSpanRow.domain false) (Rows.fnExactCommonSpanSpec.post enc Try.prog Try.f7 false true false false) := by
  refine returnsInHanded_of_change_sized (C := Try.checked) own started (by kernel_rfl) Try.func7
    (ChangeSpec.witness6 (enc := enc) (C := Try.checked) false ⟨#[], #[.agg #[.int .i64 0, .int .i64 0], .agg #[.int .i64 0, .int .i64 0]], []⟩ 8 (by kernel_rfl) (by kernel_rfl) (by kernel_rfl) (by kernel_rfl)) ?_
  intro W base args ds gs before hval0 hW hcnd hsz0 _
  have hsz : (DataW.weightsEach Try.prog (Try.f7.params.toList ++ Rows.fnExactCommonSpanSpec.plain.varTypes Try.prog) (ds ++ gs)).all (· ≤ reachBytes) = true := hsz0
  have hval : ∀ (j : Nat) t v, Try.f7.params[j]? = some t → args[j]? = some v → Value.okWide Try.prog W .any base t v := hval0
  have hW' := hW
  obtain ⟨p, q, hA0, hV, rfl, hfz, hnd⟩ := hW
  have hA : DataW.TrodAll enc Try.prog W 0 (fun _ => true) true Try.f7.params.toList args.toList ds p := hA0
  rw [Try.params7] at hA hval hsz
  obtain ⟨v0, vs0, d0, ds0, p0, q0, hargs, rfl, rfl, h0, r0⟩ := trodAll_cons hA
  obtain ⟨v1, vs1, d1, ds1, p1, q1, rfl, rfl, rfl, h1, r1⟩ := trodAll_cons r0
  obtain ⟨rfl, rfl, rfl⟩ := trodAll_nil r1
  obtain rfl : args = #[v0, v1] := by cases args; simp_all
  obtain ⟨rfl, rfl⟩ := trodVars_none hV
  obtain ⟨cs0, rfl, hz0⟩ := okWide_struct Try.underlying26 (hval 0 26 v0 rfl rfl)
  have k0 := h0
  have lt0 : ∀ x ∈ p0, x.block < W.heap.size := by obtain ⟨m, hm⟩ := k0; exact DataW.trod_lt m _ _ _ hm
  obtain ⟨s0, hK0, b0⟩ := open_str rdT26 h0 (arg_sized hsz (j := 0) (t := 26) rfl rfl)
  obtain rfl : cs0 = #[.int .i64 s0.f0, .int .i64 s0.f1] := Array.toList_inj.1 (by rw [k26_open hK0])
  obtain ⟨cs1, rfl, hz1⟩ := okWide_struct Try.underlying26 (hval 1 26 v1 rfl rfl)
  have k1 := h1
  have lt1 : ∀ x ∈ p1, x.block < W.heap.size := by obtain ⟨m, hm⟩ := k1; exact DataW.trod_lt m _ _ _ hm
  obtain ⟨s1, hK1, b1⟩ := open_str rdT26 h1 (arg_sized hsz (j := 1) (t := 26) rfl rfl)
  obtain rfl : cs1 = #[.int .i64 s1.f0, .int .i64 s1.f1] := Array.toList_inj.1 (by rw [k26_open hK1])
  refine (laws_FnExactCommonSpan.walk Pure.FnExactCommonSpan s0.f0 s0.f1 s1.f0 s1.f1 W  b0.1 b0.2 b1.1 b1.2).mono fun e W' ⟨he, bel⟩ => ?_
  subst he
  exact ⟨_, rfl, _, _, _, [], _, [], hW', trodAll_mk1 (shut_bool Try.underlying4 _), (trodAll_cons_mk (Below.trod laidOut (by kernel_rfl) (of_decide_eq_true (by kernel_rfl)) k0 bel lt0) (trodAll_cons_mk (Below.trod laidOut (by kernel_rfl) (of_decide_eq_true (by kernel_rfl)) k1 bel lt1) trodAll_mk0)), rfl, bel.frame _, fun h => by cases h⟩
theorem over : Rows.fnExactCommonSpanRow.holds Try.pinned (OpenSpec.ofChange Rows.fnExactCommonSpanSpec) :=
  OpenClaim.holds_of_wide 7 Try.f7 rfl rfl rfl rfl rfl rfl rfl ⟨rfl, rfl, rfl, rfl, rfl⟩ rfl rfl rfl rfl rfl (by kernel_rfl) Try.func7 (by kernel_rfl)
    (of_decide_eq_true (by kernel_rfl)) (by unfold Func.isWrapper; first | (rw [if_pos (by decide +kernel)]; kernel_rfl) | (rw [if_neg (by decide +kernel)]; exact ⟨rfl, rfl⟩))
    (fun os started H enc _ => lifted os started H enc)
theorem proved : Rows.FnExactCommonSpanSaid := over
#print axioms proved
end Go.Proofs.Ythmegimmnhkkhaa.fnExactCommonSpan
namespace Go.Proofs.Ythmegimmnhkkhaa
/-- The row, under a short name, for the claim. -/
theorem fnExactCommonSpan_holds : Rows.FnExactCommonSpanSaid := fnExactCommonSpan.proved
end Go.Proofs.Ythmegimmnhkkhaa
