-- Written by this session's own program over the kit's print (wip/tools/myprint.py); Lean checks it.
import Derived.Test.YtpdcopbnhaoilaaDoorG0
import Derived.Test.YtpdcopbnhaoilaaDoorG1
import Derived.Test.YtpdcopbnhaoilaaDoorMTabA
namespace Go.Proofs.YtpdcopbnhaoilaaDoor.G
open Go.RowKit Go.Proofs.YtpdcopbnhaoilaaDoorW.PrintWords Go.Proofs.YtpdcopbnhaoilaaDoorW.PrintLast Go.Proofs.YtpdcopbnhaoilaaDoorW.PrintMore
attribute [local go_sem] max2_int min2_int max_two min_two max_three min_three max_four min_four str_geq str_gtr str_leq   -- for this text's walks alone
set_option linter.unusedVariables false
set_option linter.unusedSimpArgs false

/-! ### impl_decimal: function 64 -/
/-- impl.decimal: the number that a text spells as strconv.Itoa would write it. -/
def impl_decimal.num (l : List UInt8) : Int × Bool := match Lib.atoiAll l with
  | .ok v => if Lib.itoa v = l then (v, true) else (0, false)
  | _ => (0, false)
def impl_decimal.f (a0 : ByteArray) : Option (Int × Bool) := if a0.size ≤ 281474976710656 then some (impl_decimal.num a0.data.toList) else none
set_option maxHeartbeats 1000000 in
set_option maxRecDepth 100000 in
theorem impl_decimal.calls (a0 : ByteArray) (r1 : Int) (r2 : Bool) (w : World) (hT : MTabA.Tab w) (h : impl_decimal.f a0 = some (r1, r2)) :
    Calls Tryd.prog 64 #[.string a0] w fun e w' => e = .returned (.tuple #[.int .i64 r1, .bool r2]) ∧ Below w.heap.size w w' := by
  by_cases hs : a0.size ≤ 281474976710656
  case neg => simp [impl_decimal.f, hs] at h
  rw [impl_decimal.f, if_pos hs] at h
  have h := Option.some.inj h
  have HB := Aside0.mk (Below.refl w.heap.size w)
  have HT := Aside0.mk (MTabA.all hT)
  have HS := Aside0.mk hs
  cases hq : Lib.atoiAll a0.data.toList with
  | ok v =>
    obtain ⟨v0, v1⟩ := Lib.atoiAll_bounds hq
    have HQ := Aside0.mk hq
    have hI := strconv_Itoa.f_at v v0 v1
    have HI := Aside0.mk hI
    by_cases he : Lib.itoa v = a0.data.toList
    · have h2 : (v, true) = (r1, r2) := by rw [← h, impl_decimal.num, hq]; exact (if_pos he).symm
      simp only [Prod.mk.injEq] at h2
      obtain ⟨rfl, rfl⟩ := h2
      have e2 : (⟨(Lib.itoa v).toArray⟩ : ByteArray) = a0 := by rw [he]
      have HE := Aside0.mk e2
      clear hq hI v0 v1 he e2 hs h hT
      go_enter Tryd.func64, Tryd.ntmps64
      go_wp2_with (first | (go_at_call 89; refine (MTabA.atoi_ok a0 HS.out v HQ.out _).mono ?_; rintro e w1 ⟨rfl, hb⟩; have n0_ := Aside0.mk (below_step HB.out hb); clear HB hb; have HB := n0_; clear n0_) | (go_at_call 55; refine (strconv_Itoa.calls v _ _ (HT.out _ HB.out).1 HI.out).mono ?_; rintro e w2 ⟨rfl, hb⟩; rw [HE.out]; have n0_ := Aside0.mk (below_step HB.out hb); clear HB hb; have HB := n0_; clear n0_))
      go_ret2
      exact ⟨rfl, HB.out⟩
    · have h2 : ((0 : Int), false) = (r1, r2) := by rw [← h, impl_decimal.num, hq]; exact (if_neg he).symm
      simp only [Prod.mk.injEq] at h2
      obtain ⟨rfl, rfl⟩ := h2
      have e2 : (Lib.itoa v == a0.toList) = false := by
        rw [beq_eq_false_iff_ne, ByteArray.toList_eq]
        exact he
      clear hq hI v0 v1 he hs h hT
      go_enter Tryd.func64, Tryd.ntmps64
      go_wp2_with (first | (go_at_call 89; refine (MTabA.atoi_ok a0 HS.out v HQ.out _).mono ?_; rintro e w1 ⟨rfl, hb⟩; have n0_ := Aside0.mk (below_step HB.out hb); clear HB hb; have HB := n0_; clear n0_) | (go_at_call 55; refine (strconv_Itoa.calls v _ _ (HT.out _ HB.out).1 HI.out).mono ?_; rintro e w2 ⟨rfl, hb⟩; have n0_ := Aside0.mk (below_step HB.out hb); clear HB hb; have HB := n0_; clear n0_))
      go_ret2
      exact ⟨rfl, HB.out⟩
  | «syntax» =>
    have h2 : ((0 : Int), false) = (r1, r2) := by rw [← h, impl_decimal.num, hq]
    simp only [Prod.mk.injEq] at h2
    obtain ⟨rfl, rfl⟩ := h2
    obtain ⟨m, hm⟩ := MTabA.atoi_no a0 hs (fun v e => by rw [hq] at e; cases e) w hT.2
    have HM := Aside0.mk hm
    clear hm hq hs h hT
    go_enter Tryd.func64, Tryd.ntmps64
    go_wp2_with (go_at_call 89; refine HM.out.mono ?_; rintro e w1 ⟨⟨t, p, rfl⟩, hb⟩; have n0_ := Aside0.mk hb; clear HB hb; have HB := n0_; clear n0_)
    go_ret2
    exact ⟨rfl, HB.out⟩
  | range =>
    have h2 : ((0 : Int), false) = (r1, r2) := by rw [← h, impl_decimal.num, hq]
    simp only [Prod.mk.injEq] at h2
    obtain ⟨rfl, rfl⟩ := h2
    obtain ⟨m, hm⟩ := MTabA.atoi_no a0 hs (fun v e => by rw [hq] at e; cases e) w hT.2
    have HM := Aside0.mk hm
    clear hm hq hs h hT
    go_enter Tryd.func64, Tryd.ntmps64
    go_wp2_with (go_at_call 89; refine HM.out.mono ?_; rintro e w1 ⟨⟨t, p, rfl⟩, hb⟩; have n0_ := Aside0.mk hb; clear HB hb; have HB := n0_; clear n0_)
    go_ret2
    exact ⟨rfl, HB.out⟩

end Go.Proofs.YtpdcopbnhaoilaaDoor.G
