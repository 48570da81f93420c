-- Written by this session's own program over the kit's print (wip/tools/myprint.py); Lean checks it.
import Derived.Test.YtphjmmaeolbggaaG0
import Derived.Test.YtphjmmaeolbggaaG1
import Derived.Test.YtphjmmaeolbggaaG2
import Derived.Test.YtphjmmaeolbggaaG5
import Derived.Test.YtphjmmaeolbggaaG6
import Derived.Test.YtphjmmaeolbggaaG9
import Derived.Test.YtphjmmaeolbggaaG12
import Derived.Test.YtphjmmaeolbggaaG14
import Derived.Test.YtphjmmaeolbggaaG15
import Derived.Test.YtphjmmaeolbggaaG18
import Derived.Test.YtphjmmaeolbggaaG19
import Derived.Test.YtphjmmaeolbggaaG47
import Derived.Test.YtphjmmaeolbggaaMOwn
import Derived.Test.YtphjmmaeolbggaaMReg
namespace Go.Proofs.Ytphjmmaeolbggaa.G
open Go.RowKit Go.Proofs.YtphjmmaeolbggaaW.PrintWords Go.Proofs.YtphjmmaeolbggaaW.PrintLast Go.Proofs.YtphjmmaeolbggaaW.PrintMore
attribute [local go_sem] max2_int min2_int max_two min_two max_three min_three max_four min_four str_geq str_gtr str_leq   -- for this text's walks alone
set_option linter.unusedVariables false
set_option linter.unusedSimpArgs false

/-! ### impl_SolveClashes: function 36 -/
/-- Whether a person is younger than a year. -/
def impl_SolveClashes.late (a1 : Int) (x : S69) : Bool := decide (x.f3 > a1)
/-- One after the other gets a free place; none if there is none. -/
def impl_SolveClashes.step (l0 : List S69) (a1 : Int) : List Int → List S69 → Option (List S69)
  | [], out => some out
  | i :: is, out => if impl_freePlace.from out (rd_T69 l0 i).f1 10 < 0 then none else impl_SolveClashes.step l0 a1 is (out.set i.toNat ⟨(rd_T69 out i).f0, (rd_T69 out i).f1, impl_freePlace.from out (rd_T69 l0 i).f1 10, a1⟩)
def impl_SolveClashes.fin (l0 : List S69) (n : Int) : Option (List S69) → List S69 × Int × Bool
  | some o => (o, n, true)
  | none => ([], 0, false)
def impl_SolveClashes.f (k : Nat) (l0 : List S69) (a1 : Int) : Option (List S69 × Int × Bool) := (impl_ArePeople.f k l0).bind fun t => if t = true ∧ (1800 ≤ a1 ∧ a1 ≤ 2200) ∧ l0.any (impl_SolveClashes.late a1) = false then (if l0.length * 40 ≤ 140737488355328 ∧ l0.length ≤ 17592186044416 then some (impl_SolveClashes.fin l0 ((impl_changes.upto l0 l0.length).length : Int) (impl_SolveClashes.step l0 a1 (impl_changes.upto l0 l0.length) l0)) else none) else some ([], 0, false)
theorem impl_SolveClashes.mono : ∀ a0 a1 k, LeO (impl_SolveClashes.f k a0 a1) (impl_SolveClashes.f (k + 1) a0 a1) := fun a0 _ k => LeO.bind (impl_ArePeople.mono a0 k) (fun _ => LeO.refl _)
theorem impl_SolveClashes.upto_lt (l : List S69) : ∀ (n : Nat) (a : Int), a ∈ impl_changes.upto l n → 0 ≤ a ∧ a < (n : Int)
  | 0, a, h => by simp [impl_changes.upto] at h
  | n + 1, a, h => by
    rw [impl_changes.upto] at h
    split at h
    · rcases List.mem_append.1 h with h | h
      · have := impl_SolveClashes.upto_lt l n a h; omega
      · rw [List.mem_singleton.1 h]; omega
    · have := impl_SolveClashes.upto_lt l n a h; omega
theorem impl_SolveClashes.win (a b c : Int) : impl_within.f a b c = some (decide (b ≤ a ∧ a ≤ c)) := by
  unfold impl_within.f
  by_cases h : a ≥ b
  · rw [if_pos h]; simp [show b ≤ a from h]
  · rw [if_neg h]; simp [show ¬ b ≤ a from h]
theorem impl_SolveClashes.year (a : Int) : impl_isYear.f a = some (decide (1800 ≤ a ∧ a ≤ 2200)) := by
  unfold impl_isYear.f
  rw [impl_SolveClashes.win]
  rfl
set_option maxHeartbeats 4000000 in
set_option maxRecDepth 100000 in
theorem impl_SolveClashes.pred (a1 : Int) (B : Nat) (w : World) (hB : B < w.heap.size) (hb0 : w.cell? ⟨B, 0, none⟩ = some (.int .i64 a1)) (W : World) (x : S69) (hb : Below w.heap.size w W) :
    Calls Try.prog 86 (#[.agg #[.string x.f0, .int .i64 x.f1, .int .i64 x.f2, .int .i64 x.f3]] ++ #[.pointer (some ⟨B, 0, none⟩)]) W fun e w' => e = .returned (.bool (impl_SolveClashes.late a1 x)) ∧ Below w.heap.size w w' := by
  have hb1 : W.cell? ⟨B, 0, none⟩ = some (.int .i64 a1) := (hb.cell (p := ⟨B, 0, none⟩) hB).trans hb0
  have hBW : B < W.heap.size := Nat.lt_of_lt_of_le hB hb.size
  have hne : B ≠ W.heap.size := by omega
  have HB := Aside0.mk hb
  clear hb0 hb hB
  unfold impl_SolveClashes.late
  show Calls Try.prog 86 #[.agg #[.string x.f0, .int .i64 x.f1, .int .i64 x.f2, .int .i64 x.f3], .pointer (some ⟨B, 0, none⟩)] W _
  go_enter Try.func86, Try.ntmps86
  go_wp2
  go_ret
  exact ⟨by simp [GT.gt], HB.out.alloc HB.out.size _⟩
set_option maxHeartbeats 8000000 in
set_option maxRecDepth 100000 in
theorem impl_SolveClashes.calls (k : Nat) (A0 : Option Addr) (c0 : Nat) (l0 : List S69) (a1 : Int) (r1 : List S69) (r2 : Int) (r3 : Bool) (w : World) (hr0 : Kd.C k69 w A0 l0.length l0) (hc0 : l0.length ≤ c0) (h : impl_SolveClashes.f k l0 a1 = some (r1, r2, r3)) :
    Calls Try.prog 36 #[.slice A0 l0.length c0, .int .i64 a1] w fun e w' => ∃ v0_ : Value, e = .returned (.tuple #[v0_, .int .i64 r2, .bool r3]) ∧ Kd.R k69 69 w' w.heap.size (fun _ => True) v0_ r1 ∧ Below w.heap.size w w' := by
  have hreg := MReg.here
  clear hreg
  obtain ⟨t, ht, h⟩ := Option.bind_eq_some_iff.mp h
  have eg : ∀ args w, (callFunc 86 args).run Try.prog w = .ok (.enter 86 args) w := goes_in Try.func86 (by kernel_rfl) rfl
  obtain ⟨w1, hw1⟩ : ∃ w1, w1 = w.alloc (.cells #[.int .i64 a1] 3) := ⟨_, rfl⟩
  have HW := Aside0.mk (show Below w.heap.size w w1 by rw [hw1]; exact (Below.refl _ w).alloc (Nat.le_refl _) (.cells #[.int .i64 a1] 3))
  have HSZ := Aside0.mk (show w1.heap.size = w.heap.size + 1 by rw [hw1]; simp)
  have HCA := Aside0.mk (show w1.cell? ⟨w.heap.size, 0, none⟩ = some (.int .i64 a1) by rw [hw1]; simp)
  have HT := Aside0.mk (impl_ArePeople.calls k A0 c0 l0 t w1 (Kd.C_below hr0 HW.out) hc0 ht)
  have HR := Aside0.mk (Kd.C_below hr0 HW.out)
  have HL := Aside0.mk hr0.2.1
  have HTH := Aside0.mk (fun (W : World) (hb : Below w1.heap.size w1 W) =>
    slices_ContainsFunc_Person.with (impl_SolveClashes.late a1) 86 #[.pointer (some ⟨w.heap.size, 0, none⟩)] eg A0 c0 l0 W (Kd.C_below HR.out hb)
      (fun W2 x hb2 => impl_SolveClashes.pred a1 w.heap.size W (Nat.lt_of_lt_of_le (by have := HSZ.out; omega) hb.size) ((hb.cell (p := ⟨w.heap.size, 0, none⟩) (by have := HSZ.out; show w.heap.size < _; omega)).trans HCA.out) W2 x hb2))
  have HCC := Aside0.mk hc0
  clear ht hr0 hc0 eg
  go_enter Try.func36, Try.ntmps36
  go_wp2_with fail
  rw [← hw1]
  refine HT.out.mono ?_
  clear HT hw1
  rintro e wa ⟨rfl, hb⟩
  have HB := Aside0.mk hb
  have hca := (hb.cell (p := ⟨w.heap.size, 0, none⟩) (by have := HSZ.out; show w.heap.size < _; omega)).trans HCA.out
  clear hb
  cases t with
  | false =>
    simp only [Bool.false_eq_true, false_and, if_false, Option.some.injEq, Prod.mk.injEq] at h
    obtain ⟨rfl, rfl, rfl⟩ := h
    go_wp2
    go_ret3
    exact ⟨_, rfl, Kd.R_nil _ _ _ _ _, HW.out.trans (HB.out.mono HW.out.size)⟩
  | true =>
    have H4 := Aside0.mk (impl_SolveClashes.year a1)
    by_cases h4 : 1800 ≤ a1 ∧ a1 ≤ 2200
    case neg =>
      rw [decide_eq_false h4] at H4
      simp only [h4, false_and, and_false, if_false, Option.some.injEq, Prod.mk.injEq] at h
      obtain ⟨rfl, rfl, rfl⟩ := h
      clear h4
      go_wp2_with (go_at_call 79; (with_reducible refine (impl_isYear.calls _ _ _ H4.out).mono ?_); rintro e wb ⟨rfl, ⟨nd, rfl⟩⟩)
      go_ret3
      exact ⟨_, rfl, Kd.R_nil _ _ _ _ _, HW.out.trans (Below.mono (by repeat (first | (with_reducible first | exact HB.out | apply pw_below_drewN | apply below_drew1) | exact HB.out)) HW.out.size)⟩
    rw [decide_eq_true h4] at H4
    simp only [h4, true_and, and_self] at h
    clear h4
    go_wp2_with (go_at_call 79; (with_reducible refine (impl_isYear.calls _ _ _ H4.out).mono ?_); rintro e wb ⟨rfl, ⟨nd, rfl⟩⟩)
    refine MOwn.named ?_
    intro wb hWb
    have HB1 := Aside0.mk (show Below w1.heap.size w1 wb by subst hWb; repeat (first | (with_reducible first | exact HB.out | apply pw_below_drewN | apply below_drew1) | exact HB.out))
    clear HB hWb
    refine (HTH.out wb HB1.out).mono ?_
    rintro e wc ⟨rfl, hb⟩
    have HB := Aside0.mk (HB1.out.trans (hb.mono HB1.out.size))
    clear hb HB1
    cases hq : l0.any (impl_SolveClashes.late a1) with
    | true =>
      simp only [hq, Bool.true_eq_false, if_false, Option.some.injEq, Prod.mk.injEq] at h
      obtain ⟨rfl, rfl, rfl⟩ := h
      clear hq
      go_wp2
      go_ret3
      exact ⟨_, rfl, Kd.R_nil _ _ _ _ _, HW.out.trans (HB.out.mono HW.out.size)⟩
    | false =>
      by_cases hLL : l0.length * 40 ≤ 140737488355328 ∧ l0.length ≤ 17592186044416
      case neg => simp [hq, hLL] at h
      simp only [hq, if_true, if_pos hLL, Option.some.injEq] at h
      have HFIN := Aside0.mk h
      have HCL := Aside0.mk (show slices_Clone_Person.f l0 = some l0 by rw [slices_Clone_Person.f, if_pos hLL.1])
      have HCH := Aside0.mk (show impl_changes.f l0 = some (impl_changes.upto l0 l0.length) by rw [impl_changes.f, if_pos hLL.2])
      have HLIM := Aside0.mk hLL.2
      clear hq hLL h
      obtain ⟨L, hL⟩ : ∃ L, L = impl_changes.upto l0 l0.length := ⟨_, rfl⟩
      have HIN := Aside0.mk (show ∀ a, a ∈ L → 0 ≤ a ∧ a < (l0.length : Int) by rw [hL]; exact impl_SolveClashes.upto_lt l0 l0.length)
      have HLL := Aside0.mk (show L.length ≤ l0.length by rw [hL]; exact impl_changes.upto_length l0 l0.length)
      rw [← hL] at HFIN HCH
      clear hL
      go_wp2_with fail
      refine MOwn.named ?_
      intro wd hWd
      have HB1 := Aside0.mk (show Below w1.heap.size w1 wd by subst hWd; repeat (first | (with_reducible first | exact HB.out | apply pw_below_drewN | apply below_drew1) | exact HB.out))
      clear HB hWd
      refine (slices_Clone_Person.calls _ c0 l0 l0 wd (Kd.C_below HR.out HB1.out) HCC.out HCL.out).mono ?_
      rintro e we ⟨v, rfl, ho, hb⟩
      have hbd : w1.heap.size ≤ wd.heap.size := HB1.out.size
      have HO := Aside0.mk (MOwn.RR.new (base := w1.heap.size) ho hbd)
      have HB := Aside0.mk (HB1.out.trans (hb.mono HB1.out.size))
      clear ho hb HB1
      obtain ⟨Ao, co, rfl⟩ := HO.out.form
      obtain ⟨lo, hlo⟩ : ∃ z, wd.heap.size = z := ⟨_, rfl⟩
      obtain ⟨hi, hhi⟩ : ∃ z, we.heap.size = z := ⟨_, rfl⟩
      rw [hlo, hhi] at HO
      rw [hlo] at hbd
      have HLO := Aside0.mk hbd
      clear hlo hhi hbd
      go_wp2_with fail
      refine MOwn.named ?_
      intro wf hWf
      have HB1 := Aside0.mk (show Below w1.heap.size w1 wf by subst hWf; repeat (first | (with_reducible first | exact HB.out | apply pw_below_drewN | apply below_drew1) | exact HB.out))
      have HO1 := Aside0.mk (HO.out.at (W := wf) (by subst hWf; rfl))
      clear HB hWf HO
      refine (impl_changes.calls _ c0 l0 L wf (Kd.C_below HR.out HB1.out) HCC.out HCH.out).mono ?_
      rintro e wg ⟨v, rfl, ho, hb⟩
      have HM := Aside0.mk (MOwn.RR.new (base := w1.heap.size) ho HB1.out.size)
      have HSEP := Aside0.mk HO1.out.2
      have HO := Aside0.mk (HO1.out.below hb)
      have HB := Aside0.mk (HB1.out.trans (hb.mono HB1.out.size))
      clear ho hb HB1 HO1
      obtain ⟨Am, cm, rfl⟩ := HM.out.form
      obtain ⟨ml, hml⟩ : ∃ z, wf.heap.size = z := ⟨_, rfl⟩
      obtain ⟨mh, hmh⟩ : ∃ z, wg.heap.size = z := ⟨_, rfl⟩
      rw [hml, hmh] at HM
      rw [hml] at HSEP
      clear hml hmh
      go_wp2
      go_loopg [29] L.length (fun gg s29 wr => ∃ (x : Int) (out : List S69), s29 = .int .i64 x ∧ Aside0 (0 ≤ x ∧ x ≤ (L.length : Int) ∧ (L.length : Int) - x ≤ (gg : Int)) ∧ Aside0 (out.length = l0.length ∧ impl_SolveClashes.step l0 a1 (L.drop x.toNat) out = impl_SolveClashes.step l0 a1 L l0) ∧ Aside0 (MOwn.RR k69 69 wr w1.heap.size lo hi (.slice Ao l0.length co) out) ∧ Aside0 (MOwn.RR (Kd.int .i64) 3 wr w1.heap.size ml mh (.slice Am L.length cm) L) ∧ Aside0 (Below w1.heap.size w1 wr))
      case atStart => exact ⟨0, l0, rfl, ⟨by omega⟩, ⟨rfl, rfl⟩, ⟨HO.out⟩, ⟨HM.out⟩, ⟨HB.out⟩⟩
      case round =>
        clear HO HM HB
        obtain ⟨x, out, rfl, HX, HS, HO, HM, HB⟩ := hrel
        by_cases hlt : x < (L.length : Int)
        · have p1 : 0 ≤ x := HX.out.1
          have q1 := hlt
          have hw : wrap64 (x + 1) = x + 1 := by have := HLIM.out; have := HLL.out; unfold wrap64; omega
          have HWR := Aside0.mk hw
          have HLT := Aside0.mk hlt
          obtain ⟨i, hdr⟩ : ∃ y, L.drop x.toNat = y :: L.drop (x.toNat + 1) := ⟨_, List.drop_eq_getElem_cons (show x.toNat < L.length by omega)⟩
          have hgi : L.getD x.toNat 0 = i := by
            have h2 := congrArg (fun l => l.getD 0 0) hdr
            simpa [List.getD_eq_getElem?_getD, List.getElem?_drop] using h2
          have hii := HIN.out i (List.mem_of_mem_drop (by rw [hdr]; exact List.mem_cons_self))
          have HDR := Aside0.mk hdr
          obtain ⟨gm, capm, hem, _, _, _, _⟩ := Kd.R_form HM.out.1 (by omega)
          obtain ⟨rfl, -, -⟩ := Value.slice.inj hem
          obtain ⟨go, capo, heo, hgo, _, _, _⟩ := Kd.R_form HO.out.1 (by have := HS.out.1; omega)
          obtain ⟨rfl, -, -⟩ := Value.slice.inj heo
          obtain ⟨ce, _, hM, hcc, _⟩ := Kd.R_elem HM.out.1 (0 : Int) x p1 q1
          rw [hgi] at hM
          obtain rfl : ce = [.int .i64 i] := hM
          have hx1 := hcc 0 _ rfl
          simp only [show (Kd.int .i64).sz = 1 from rfl, Nat.mul_one, Nat.add_zero] at hx1
          obtain ⟨ad, e, hx0, hx1, hx2, hx3⟩ := at_T69 (Kd.C_below HR.out HB.out) i hii.1 hii.2
          cases e
          have HII := Aside0.mk hii
          have p2 := eq_true hii.1
          have q2 := eq_true hii.2
          have HGO := Aside0.mk hgo
          have HGR := Aside0.mk (HO.out.1.1 go rfl)
          have hcy := (HB.out.cell (p := ⟨w.heap.size, 0, none⟩) (by have := HSZ.out; show w.heap.size < _; omega)).trans HCA.out
          obtain ⟨pl, hpl⟩ : ∃ z, impl_freePlace.from out (rd_T69 l0 i).f1 10 = z := ⟨_, rfl⟩
          have HPL := Aside0.mk hpl
          have b1 : decide (x < (L.length : Int)) = true := decide_eq_true hlt
          clear hlt hdr hgi hii hem heo hcc hgo hpl hw
          replace p1 := eq_true p1
          replace q1 := eq_true q1
          go_wp2_with fail
          refine MOwn.named ?_
          intro wa hWa
          have HB1 := Aside0.mk (show Below w1.heap.size w1 wa by subst hWa; repeat (first | (with_reducible first | exact HB.out | apply pw_below_drewN | apply below_drew1) | exact HB.out))
          have HO1 := Aside0.mk (HO.out.at (W := wa) (by subst hWa; rfl))
          have HM1 := Aside0.mk (HM.out.at (W := wa) (by subst hWa; rfl))
          clear HB HO HM hWa
          have hfp := impl_freePlace.calls (some ⟨go, 0, none⟩) co out (rd_T69 l0 i).f1 pl wa HO1.out.reads.2.2 (by have := HO1.out.reads; omega) (by unfold impl_freePlace.f; rw [HPL.out])
          rw [HS.out.1] at hfp
          refine hfp.mono ?_
          clear hfp
          rintro e wb ⟨rfl, hb⟩
          have HB := Aside0.mk (HB1.out.trans (hb.mono HB1.out.size))
          have HO := Aside0.mk (HO1.out.below hb)
          have HM := Aside0.mk (HM1.out.below hb)
          clear hb HB1 HO1 HM1
          by_cases hneg : pl < 0
          · have HF2 := HFIN.out
            rw [← HS.out.2, HDR.out, impl_SolveClashes.step, if_pos (by rw [HPL.out]; exact hneg), impl_SolveClashes.fin] at HF2
            simp only [Prod.mk.injEq] at HF2
            obtain ⟨rfl, rfl, rfl⟩ := HF2
            have b2 : decide (pl < 0) = true := decide_eq_true hneg
            go_wp2
            go_ret3
            exact ⟨_, rfl, Kd.R_nil _ _ _ _ _, HW.out.trans (Below.mono (by repeat (first | (with_reducible first | exact HB.out | apply pw_below_drewN | apply below_drew1) | exact HB.out)) HW.out.size)⟩
          · have b2 : decide (pl < 0) = false := decide_eq_false hneg
            have HNEG := Aside0.mk hneg
            clear hneg
            have hcy2 := (HB.out.cell (p := ⟨w.heap.size, 0, none⟩) (by have := HSZ.out; show w.heap.size < _; omega)).trans HCA.out
            have hne1 : w.heap.size ≠ go := by have := HSZ.out; have := HGO.out; omega
            obtain ⟨ce, hcl, hM, hcc, hfr⟩ := Kd.R_elem HO.out.1 z69 i HII.out.1 HII.out.2
            obtain rfl := k69_openM hM
            have hy2 : wb.cell? ⟨go, i.toNat * 4 + 2, none⟩ = some (.int .i64 (rd_T69 out i).f2) := hcc 2 _ rfl
            have hy3 : wb.cell? ⟨go, i.toNat * 4 + 3, none⟩ = some (.int .i64 (rd_T69 out i).f3) := hcc 3 _ rfl
            have hf2 : wb.frozen? ⟨go, i.toNat * 4 + 2, none⟩ = false := hfr 2
            have hf3 : wb.frozen? ⟨go, i.toNat * 4 + 3, none⟩ = false := hfr 3
            clear hcl hM hcc hfr
            go_wp2_with fail
            go_region
            have step : ∀ (W : World) (xs : List S69) (y : S69), Kd.R k69 69 W w1.heap.size (fun k => lo ≤ k ∧ k < hi) (.slice (some ⟨go, 0, none⟩) l0.length co) xs → xs.getD i.toNat z69 = y →
                Kd.R k69 69 (W.setCell ⟨go, i.toNat * 4 + 2, none⟩ (.int .i64 pl)) w1.heap.size (fun k => lo ≤ k ∧ k < hi) (.slice (some ⟨go, 0, none⟩) l0.length co) (xs.set i.toNat ⟨y.f0, y.f1, pl, y.f3⟩) ∧ Kd.R k69 69 (W.setCell ⟨go, i.toNat * 4 + 3, none⟩ (.int .i64 a1)) w1.heap.size (fun k => lo ≤ k ∧ k < hi) (.slice (some ⟨go, 0, none⟩) l0.length co) (xs.set i.toNat ⟨y.f0, y.f1, y.f2, a1⟩) := by
              intro W xs y hR hy
              obtain ⟨ce, hcl, hM, hcc, _⟩ := Kd.R_elem hR z69 i HII.out.1 HII.out.2
              rw [hy] at hM
              obtain rfl := k69_openM hM
              exact ⟨(Kd.R_seg hR i HII.out.1 HII.out.2 (seg := [.int .i64 pl]) (j := 2) hcl hcc (show 2 + 1 ≤ 4 by decide) (x' := (⟨y.f0, y.f1, pl, y.f3⟩ : S69)) (k69_mkM _ _ _ (⟨y.f0, y.f1, pl, y.f3⟩ : S69)) (fun _ hk => hk)).1,
                (Kd.R_seg hR i HII.out.1 HII.out.2 (seg := [.int .i64 a1]) (j := 3) hcl hcc (show 3 + 1 ≤ 4 by decide) (x' := (⟨y.f0, y.f1, y.f2, a1⟩ : S69)) (k69_mkM _ _ _ (⟨y.f0, y.f1, y.f2, a1⟩ : S69)) (fun _ hk => hk)).1⟩
            have hlt : i.toNat < out.length := by have := HII.out; have := HS.out.1; omega
            have z2 := (step wb out (rd_T69 out i) HO.out.1 rfl).1
            have z3 := (step _ _ ⟨(rd_T69 out i).f0, (rd_T69 out i).f1, pl, (rd_T69 out i).f3⟩ z2 (by rw [List.getD_eq_getElem?_getD, List.getElem?_set_self hlt]; rfl)).2
            rw [List.set_set] at z3
            have HB2 := Aside0.mk (below_set (below_set HB.out HGO.out) HGO.out : Below w1.heap.size w1 ((wb.setCell ⟨go, i.toNat * 4 + 2, none⟩ (.int .i64 pl)).setCell ⟨go, i.toNat * 4 + 3, none⟩ (.int .i64 a1)))
            have HSW := Aside0.mk (show wb.heap.size ≤ ((wb.setCell ⟨go, i.toNat * 4 + 2, none⟩ (.int .i64 pl)).setCell ⟨go, i.toNat * 4 + 3, none⟩ (.int .i64 a1)).heap.size by simp [World.setCell])
            have HM2 := Aside0.mk (HM.out.kept (((Kept.refl wb (fun k => k = go)).setCell (p := ⟨go, i.toNat * 4 + 2, none⟩) (.inl rfl) (.int .i64 pl)).setCell (p := ⟨go, i.toNat * 4 + 3, none⟩) (.inl rfl) (.int .i64 a1)) (fun k hk _ he => by have := HGR.out; have := HSEP.out; omega))
            have HZ := Aside0.mk (show MOwn.RR k69 69 ((wb.setCell ⟨go, i.toNat * 4 + 2, none⟩ (.int .i64 pl)).setCell ⟨go, i.toNat * 4 + 3, none⟩ (.int .i64 a1)) w1.heap.size lo hi (.slice (some ⟨go, 0, none⟩) l0.length co) _ from ⟨z3, Nat.le_trans HO.out.2 HSW.out⟩)
            clear step z2 z3 hlt hy2 hy3 hf2 hf3 hcy2 HB HO HM HSW
            generalize ((wb.setCell ⟨go, i.toNat * 4 + 2, none⟩ (.int .i64 pl)).setCell ⟨go, i.toNat * 4 + 3, none⟩ (.int .i64 a1)) = wz at HZ HM2 HB2 ⊢
            go_wp2
            go_roundg (L.length - (x.toNat + 1))
            case measure => have := HX.out; have := HLT.out; omega
            case rel =>
              have hx := HX.out
              have hl := HLT.out
              have hn : (x + 1).toNat = x.toNat + 1 := by omega
              refine ⟨x + 1, _, by first | rfl | (rw [HWR.out]) | (simp [HWR.out]), ⟨by omega⟩, ⟨?_, ?_⟩, ⟨HZ.out.at rfl⟩, ⟨HM2.out.at rfl⟩, ⟨by repeat (first | (with_reducible first | exact HB2.out | apply pw_below_drewN | apply below_drew1) | exact HB2.out)⟩⟩
              · rw [List.length_set]; exact HS.out.1
              · rw [← HS.out.2, HDR.out, impl_SolveClashes.step, if_neg (by rw [HPL.out]; have := HNEG.out; omega), HPL.out, hn]
        · have b1 : decide (x < (L.length : Int)) = false := decide_eq_false hlt
          have hx : x.toNat = L.length := by have := HX.out; omega
          have HF2 := HFIN.out
          rw [← HS.out.2, hx, List.drop_length, impl_SolveClashes.step, impl_SolveClashes.fin] at HF2
          simp only [Prod.mk.injEq] at HF2
          obtain ⟨rfl, rfl, rfl⟩ := HF2
          clear hlt hx HS HM
          go_wp2_with fail
          refine MOwn.named ?_
          intro wa hWa
          have HB1 := Aside0.mk (show Below w1.heap.size w1 wa by subst hWa; repeat (first | (with_reducible first | exact HB.out | apply pw_below_drewN | apply below_drew1) | exact HB.out))
          have HO1 := Aside0.mk (HO.out.at (W := wa) (by subst hWa; rfl))
          clear HB HO hWa
          refine (impl_changes.calls _ c0 l0 L wa (Kd.C_below HR.out HB1.out) HCC.out HCH.out).mono ?_
          rintro e wb ⟨v, rfl, ho, hb⟩
          have HB := Aside0.mk (HB1.out.trans (hb.mono HB1.out.size))
          have HO := Aside0.mk (HO1.out.below hb)
          obtain ⟨An, cn, rfl⟩ := Kd.R_slice ho
          clear ho hb HB1 HO1
          go_wp2
          go_ret3
          exact ⟨_, rfl, by (with_reducible repeat (first | apply Kd.R_drewN | apply Kd.R_drew)); exact Kd.R_mono (Kd.R_lower HO.out.1 HW.out.size) (fun _ _ => trivial), HW.out.trans (Below.mono (by repeat (first | (with_reducible first | exact HB.out | apply pw_below_drewN | apply below_drew1) | exact HB.out)) HW.out.size)⟩

/-! ### laws_FnExactSolveClashes: function 7 -/
/-- THE ONE PURE STATEMENT of laws_FnExactSolveClashes: what its calls answer. -/
def laws_FnExactSolveClashes.Pure : Prop := ∀ (l0 : List (S66)) (a1 : Int), ((∀ a_, a_ ∈ l0 → gT66 a_) ∧ l0.length * 40 ≤ 140737488351232) → (Lit.int .i64 a1).wf = true → ∃ k : Nat, ∃ z0 : Int, laws_szPersonS.f k l0 1048576 = some z0 ∧ (0 ≤ z0 → ∃ (x0 : List (S69)) (r0 : List (S69)) (r1 : Int) (r2 : Bool) (m0 : Int) (y0 : List (S69)) (n0 : Int) (s0 : List (S69)), laws_toPersonS.f k l0 = some x0 ∧ spec_SolveClashes.f k x0 a1 = some (r0, r1, r2) ∧ impl_SolveClashes.f k x0 a1 = some (r0, r1, r2) ∧ laws_eqPersonS.f k r0 r0 = some true ∧ laws_eqPersonS.f k x0 x0 = some true ∧ laws_markPersonS.f k x0 1 = some (m0, y0) ∧ 0 ≤ m0 ∧ laws_markPersonS.f k r0 1 = some (n0, s0) ∧ laws_heldPersonS.f k s0 1 = some n0 ∧ 0 ≤ n0)
set_option maxHeartbeats 40000000 in
set_option maxRecDepth 100000 in
theorem laws_FnExactSolveClashes.walk (P : laws_FnExactSolveClashes.Pure) (A0 : Option Addr) (c0 : Nat) (l0 : List (S66)) (a1 : Int) (w : World) (hr0 : Kd.C k66 w A0 l0.length l0) (hc0 : l0.length ≤ c0) (b0 : ((∀ a_, a_ ∈ l0 → gT66 a_) ∧ l0.length * 40 ≤ 140737488351232)) (b1 : (Lit.int .i64 a1).wf = true) :
    Calls Try.prog 7 #[.slice A0 l0.length c0, .int .i64 a1] w fun e w' => e = .returned (.bool true) ∧ Below w.heap.size w w' := by
  obtain ⟨k, F⟩ := P l0 a1 b0 b1
  clear P b0 b1
  have HR0 := Aside0.mk hr0; have HC0 := Aside0.mk hc0; clear hr0 hc0
  have HB := Aside0.mk (Below.refl w.heap.size w)
  obtain ⟨z0, Fz0, F⟩ := F
  have FZ0 := Aside0.mk Fz0; clear Fz0; have FF := Aside0.mk F; clear F
  go_enter Try.func7, Try.ntmps7
  go_wp2_with fail
  refine MOwn.named ?_
  intro wa1 hW
  have HB' := Aside0.mk (show Below w.heap.size w wa1 from (by subst hW; repeat (first | (with_reducible first | exact HB.out | apply below_alloc | apply pw_below_drewN | apply below_drew1) | exact HB.out))); clear HB; have HB := HB'; clear HB' hW
  refine (laws_szPersonS.calls k _ _ l0 1048576 z0 _ (Kd.C_below HR0.out HB.out) HC0.out FZ0.out).mono ?_
  rintro e wb1 ⟨rfl, hb⟩
  have HB' := Aside0.mk (below_step HB.out hb); clear HB; have HB := HB'; clear HB' hb
  by_cases hz : z0 < 0
  case pos =>
    have b1 : decide (z0 < 0) = true := decide_eq_true hz
    clear hz
    go_wp2
    go_ret
    exact ⟨rfl, by repeat (first | (with_reducible first | exact HB.out | apply below_alloc | apply pw_below_drewN | apply below_drew1) | exact HB.out)⟩
  have b1_0 : decide (z0 < 0) = false := decide_eq_false hz
  have F := FF.out (by omega); clear FF hz
  obtain ⟨x0, r0, r1, r2, m0, y0, n0, s0, Fto0, Fsp, Fim, Feq0, Fex0, Fmx0, Fm, Fmr0, Fhe0, Fn0⟩ := F
  have H_Fto0 := Aside0.mk Fto0; clear Fto0
  have H_Fsp := Aside0.mk Fsp; clear Fsp
  have H_Fim := Aside0.mk Fim; clear Fim
  have H_Feq0 := Aside0.mk Feq0; clear Feq0
  have H_Fex0 := Aside0.mk Fex0; clear Fex0
  have H_Fmx0 := Aside0.mk Fmx0; clear Fmx0
  have H_Fm := Aside0.mk Fm; clear Fm
  have H_Fmr0 := Aside0.mk Fmr0; clear Fmr0
  have H_Fhe0 := Aside0.mk Fhe0; clear Fhe0
  have H_Fn0 := Aside0.mk Fn0; clear Fn0
  have b2 : decide (m0 < 0) = false := decide_eq_false (by have := H_Fm.out; omega)
  have b3_0 : decide (n0 < 0) = false := decide_eq_false (by have := H_Fn0.out; omega)
  go_wp2_with fail
  refine MOwn.named ?_
  intro wa2 hW
  have HB' := Aside0.mk (show Below w.heap.size w wa2 from (by subst hW; repeat (first | (with_reducible first | exact HB.out | apply below_alloc | apply pw_below_drewN | apply below_drew1) | exact HB.out))); clear HB; have HB := HB'; clear HB' hW
  refine (laws_toPersonS.calls k _ _ l0 x0 _ (Kd.C_below HR0.out HB.out) HC0.out H_Fto0.out).mono ?_
  rintro e wb2 ⟨vp0, rfl, hop0, hb⟩
  obtain ⟨lp0_, up0_, hl_, hr_⟩ : ∃ lo hi, lo = _ ∧ MOwn.RR k69 69 wb2 w.heap.size lo hi vp0 x0 := ⟨_, _, rfl, MOwn.RR.new hop0 (below_size HB.out)⟩
  have Hp0 := Aside0.mk hr_; clear hr_ hl_ hop0
  obtain ⟨Ap0_, cp0_, rfl⟩ := Hp0.out.form
  have HB' := Aside0.mk (below_step HB.out hb); clear HB; have HB := HB'; clear HB' hb
  go_wp2_with fail
  refine MOwn.named ?_
  intro wa3 hW
  have H' := Aside0.mk (Hp0.out.at (W := wa3) (by subst hW; rfl)); clear Hp0; have Hp0 := H'; clear H'
  have HB' := Aside0.mk (show Below w.heap.size w wa3 from (by subst hW; repeat (first | (with_reducible first | exact HB.out | apply below_alloc | apply pw_below_drewN | apply below_drew1) | exact HB.out))); clear HB; have HB := HB'; clear HB' hW
  refine (spec_SolveClashes.calls k _ _ x0 a1 r0 r1 r2 _ Hp0.out.reads.2.2 Hp0.out.reads.2.1 H_Fsp.out).mono ?_
  rintro e wb3 ⟨vs0, rfl, hos0, hb⟩
  obtain ⟨ls0_, us0_, hl_, hr_⟩ : ∃ lo hi, lo = _ ∧ MOwn.RR k69 69 wb3 w.heap.size lo hi vs0 r0 := ⟨_, _, rfl, MOwn.RR.new hos0 (below_size HB.out)⟩
  have Sp0_s0 := Aside0.mk (show up0_ ≤ ls0_ by rw [hl_]; exact Hp0.out.2)
  have Hs0 := Aside0.mk hr_; clear hr_ hl_ hos0
  have H' := Aside0.mk (Hp0.out.below hb); clear Hp0; have Hp0 := H'; clear H'
  obtain ⟨As0_, cs0_, rfl⟩ := Hs0.out.form
  have HB' := Aside0.mk (below_step HB.out hb); clear HB; have HB := HB'; clear HB' hb
  clear Hp0
  go_wp2_with fail
  refine MOwn.named ?_
  intro wa4 hW
  have H' := Aside0.mk (Hs0.out.at (W := wa4) (by subst hW; rfl)); clear Hs0; have Hs0 := H'; clear H'
  have HB' := Aside0.mk (show Below w.heap.size w wa4 from (by subst hW; repeat (first | (with_reducible first | exact HB.out | apply below_alloc | apply pw_below_drewN | apply below_drew1) | exact HB.out))); clear HB; have HB := HB'; clear HB' hW
  refine (laws_toPersonS.calls k _ _ l0 x0 _ (Kd.C_below HR0.out HB.out) HC0.out H_Fto0.out).mono ?_
  rintro e wb4 ⟨vx0, rfl, hox0, hb⟩
  obtain ⟨lx0_, ux0_, hl_, hr_⟩ : ∃ lo hi, lo = _ ∧ MOwn.RR k69 69 wb4 w.heap.size lo hi vx0 x0 := ⟨_, _, rfl, MOwn.RR.new hox0 (below_size HB.out)⟩
  have Ss0_x0 := Aside0.mk (show us0_ ≤ lx0_ by rw [hl_]; exact Hs0.out.2)
  have Hx0 := Aside0.mk hr_; clear hr_ hl_ hox0
  have H' := Aside0.mk (Hs0.out.below hb); clear Hs0; have Hs0 := H'; clear H'
  obtain ⟨Ax0_, cx0_, rfl⟩ := Hx0.out.form
  have HB' := Aside0.mk (below_step HB.out hb); clear HB; have HB := HB'; clear HB' hb
  go_wp2_with fail
  refine MOwn.named ?_
  intro wa5 hW
  have H' := Aside0.mk (Hs0.out.at (W := wa5) (by subst hW; rfl)); clear Hs0; have Hs0 := H'; clear H'
  have H' := Aside0.mk (Hx0.out.at (W := wa5) (by subst hW; rfl)); clear Hx0; have Hx0 := H'; clear H'
  have HB' := Aside0.mk (show Below w.heap.size w wa5 from (by subst hW; repeat (first | (with_reducible first | exact HB.out | apply below_alloc | apply pw_below_drewN | apply below_drew1) | exact HB.out))); clear HB; have HB := HB'; clear HB' hW
  refine (impl_SolveClashes.calls k _ _ x0 a1 r0 r1 r2 _ Hx0.out.reads.2.2 Hx0.out.reads.2.1 H_Fim.out).mono ?_
  rintro e wb5 ⟨vg0, rfl, hog0, hb⟩
  obtain ⟨lg0_, ug0_, hl_, hr_⟩ : ∃ lo hi, lo = _ ∧ MOwn.RR k69 69 wb5 w.heap.size lo hi vg0 r0 := ⟨_, _, rfl, MOwn.RR.new hog0 (below_size HB.out)⟩
  have Ss0_g0 := Aside0.mk (show us0_ ≤ lg0_ by rw [hl_]; exact Hs0.out.2)
  have Sx0_g0 := Aside0.mk (show ux0_ ≤ lg0_ by rw [hl_]; exact Hx0.out.2)
  have Hg0 := Aside0.mk hr_; clear hr_ hl_ hog0
  have H' := Aside0.mk (Hs0.out.below hb); clear Hs0; have Hs0 := H'; clear H'
  have H' := Aside0.mk (Hx0.out.below hb); clear Hx0; have Hx0 := H'; clear H'
  obtain ⟨Ag0_, cg0_, rfl⟩ := Hg0.out.form
  have HB' := Aside0.mk (below_step HB.out hb); clear HB; have HB := HB'; clear HB' hb
  go_wp2_with fail
  refine MOwn.named ?_
  intro wa6 hW
  have H' := Aside0.mk (Hs0.out.at (W := wa6) (by subst hW; rfl)); clear Hs0; have Hs0 := H'; clear H'
  have H' := Aside0.mk (Hx0.out.at (W := wa6) (by subst hW; rfl)); clear Hx0; have Hx0 := H'; clear H'
  have H' := Aside0.mk (Hg0.out.at (W := wa6) (by subst hW; rfl)); clear Hg0; have Hg0 := H'; clear H'
  have HB' := Aside0.mk (show Below w.heap.size w wa6 from (by subst hW; repeat (first | (with_reducible first | exact HB.out | apply below_alloc | apply pw_below_drewN | apply below_drew1) | exact HB.out))); clear HB; have HB := HB'; clear HB' hW
  refine (laws_eqPersonS.calls k _ _ r0 _ _ r0 true _ Hg0.out.reads.2.2 Hg0.out.reads.2.1 Hs0.out.reads.2.2 Hs0.out.reads.2.1 H_Feq0.out).mono ?_
  rintro e wb6 ⟨rfl, hb⟩
  have H' := Aside0.mk (Hs0.out.below hb); clear Hs0; have Hs0 := H'; clear H'
  have H' := Aside0.mk (Hx0.out.below hb); clear Hx0; have Hx0 := H'; clear H'
  have H' := Aside0.mk (Hg0.out.below hb); clear Hg0; have Hg0 := H'; clear H'
  have HB' := Aside0.mk (below_step HB.out hb); clear HB; have HB := HB'; clear HB' hb
  go_wp2_with fail
  refine MOwn.named ?_
  intro wa7 hW
  have H' := Aside0.mk (Hs0.out.at (W := wa7) (by subst hW; rfl)); clear Hs0; have Hs0 := H'; clear H'
  have H' := Aside0.mk (Hx0.out.at (W := wa7) (by subst hW; rfl)); clear Hx0; have Hx0 := H'; clear H'
  have H' := Aside0.mk (Hg0.out.at (W := wa7) (by subst hW; rfl)); clear Hg0; have Hg0 := H'; clear H'
  have HB' := Aside0.mk (show Below w.heap.size w wa7 from (by subst hW; repeat (first | (with_reducible first | exact HB.out | apply below_alloc | apply pw_below_drewN | apply below_drew1) | exact HB.out))); clear HB; have HB := HB'; clear HB' hW
  refine (laws_toPersonS.calls k _ _ l0 x0 _ (Kd.C_below HR0.out HB.out) HC0.out H_Fto0.out).mono ?_
  rintro e wb7 ⟨vt0, rfl, hot0, hb⟩
  obtain ⟨lt0_, ut0_, hl_, hr_⟩ : ∃ lo hi, lo = _ ∧ MOwn.RR k69 69 wb7 w.heap.size lo hi vt0 x0 := ⟨_, _, rfl, MOwn.RR.new hot0 (below_size HB.out)⟩
  have Ss0_t0 := Aside0.mk (show us0_ ≤ lt0_ by rw [hl_]; exact Hs0.out.2)
  have Sx0_t0 := Aside0.mk (show ux0_ ≤ lt0_ by rw [hl_]; exact Hx0.out.2)
  have Sg0_t0 := Aside0.mk (show ug0_ ≤ lt0_ by rw [hl_]; exact Hg0.out.2)
  have Ht0 := Aside0.mk hr_; clear hr_ hl_ hot0
  have H' := Aside0.mk (Hs0.out.below hb); clear Hs0; have Hs0 := H'; clear H'
  have H' := Aside0.mk (Hx0.out.below hb); clear Hx0; have Hx0 := H'; clear H'
  have H' := Aside0.mk (Hg0.out.below hb); clear Hg0; have Hg0 := H'; clear H'
  obtain ⟨At0_, ct0_, rfl⟩ := Ht0.out.form
  have HB' := Aside0.mk (below_step HB.out hb); clear HB; have HB := HB'; clear HB' hb
  go_wp2_with fail
  refine MOwn.named ?_
  intro wa8 hW
  have H' := Aside0.mk (Hs0.out.at (W := wa8) (by subst hW; rfl)); clear Hs0; have Hs0 := H'; clear H'
  have H' := Aside0.mk (Hx0.out.at (W := wa8) (by subst hW; rfl)); clear Hx0; have Hx0 := H'; clear H'
  have H' := Aside0.mk (Hg0.out.at (W := wa8) (by subst hW; rfl)); clear Hg0; have Hg0 := H'; clear H'
  have H' := Aside0.mk (Ht0.out.at (W := wa8) (by subst hW; rfl)); clear Ht0; have Ht0 := H'; clear H'
  have HB' := Aside0.mk (show Below w.heap.size w wa8 from (by subst hW; repeat (first | (with_reducible first | exact HB.out | apply below_alloc | apply pw_below_drewN | apply below_drew1) | exact HB.out))); clear HB; have HB := HB'; clear HB' hW
  refine (laws_eqPersonS.calls k _ _ x0 _ _ x0 true _ Hx0.out.reads.2.2 Hx0.out.reads.2.1 Ht0.out.reads.2.2 Ht0.out.reads.2.1 H_Fex0.out).mono ?_
  rintro e wb8 ⟨rfl, hb⟩
  have H' := Aside0.mk (Hs0.out.below hb); clear Hs0; have Hs0 := H'; clear H'
  have H' := Aside0.mk (Hx0.out.below hb); clear Hx0; have Hx0 := H'; clear H'
  have H' := Aside0.mk (Hg0.out.below hb); clear Hg0; have Hg0 := H'; clear H'
  have H' := Aside0.mk (Ht0.out.below hb); clear Ht0; have Ht0 := H'; clear H'
  have HB' := Aside0.mk (below_step HB.out hb); clear HB; have HB := HB'; clear HB' hb
  clear Ht0
  go_wp2_with fail
  refine MOwn.named ?_
  intro wa9 hW
  have H' := Aside0.mk (Hs0.out.at (W := wa9) (by subst hW; rfl)); clear Hs0; have Hs0 := H'; clear H'
  have H' := Aside0.mk (Hx0.out.at (W := wa9) (by subst hW; rfl)); clear Hx0; have Hx0 := H'; clear H'
  have H' := Aside0.mk (Hg0.out.at (W := wa9) (by subst hW; rfl)); clear Hg0; have Hg0 := H'; clear H'
  have HB' := Aside0.mk (show Below w.heap.size w wa9 from (by subst hW; repeat (first | (with_reducible first | exact HB.out | apply below_alloc | apply pw_below_drewN | apply below_drew1) | exact HB.out))); clear HB; have HB := HB'; clear HB' hW
  refine (laws_markPersonS.calls k (fun k_ => lx0_ ≤ k_ ∧ k_ < ux0_) _ x0 1 _ _ w _ HB.out Hx0.out.1 H_Fmx0.out).mono ?_
  rintro e wb9 ⟨rfl, hy, hb, hkp⟩
  have H' := Aside0.mk (Hs0.out.kept hkp (fun k_ h1 h2 h3 => by have := Ss0_x0.out; omega)); clear Hs0; have Hs0 := H'; clear H'
  have H' := Aside0.mk (MOwn.RR.back rfl Hx0.out hy hkp.1); clear Hx0; have Hx0 := H'; clear H' hy
  have H' := Aside0.mk (Hg0.out.kept hkp (fun k_ h1 h2 h3 => by have := Sx0_g0.out; omega)); clear Hg0; have Hg0 := H'; clear H'
  have HB' := Aside0.mk hb; clear HB; have HB := HB'; clear HB' hb hkp
  clear Hx0
  go_wp2_with fail
  refine MOwn.named ?_
  intro wa10 hW
  have H' := Aside0.mk (Hs0.out.at (W := wa10) (by subst hW; rfl)); clear Hs0; have Hs0 := H'; clear H'
  have H' := Aside0.mk (Hg0.out.at (W := wa10) (by subst hW; rfl)); clear Hg0; have Hg0 := H'; clear H'
  have HB' := Aside0.mk (show Below w.heap.size w wa10 from (by subst hW; repeat (first | (with_reducible first | exact HB.out | apply below_alloc | apply pw_below_drewN | apply below_drew1) | exact HB.out))); clear HB; have HB := HB'; clear HB' hW
  refine (laws_eqPersonS.calls k _ _ r0 _ _ r0 true _ Hg0.out.reads.2.2 Hg0.out.reads.2.1 Hs0.out.reads.2.2 Hs0.out.reads.2.1 H_Feq0.out).mono ?_
  rintro e wb10 ⟨rfl, hb⟩
  have H' := Aside0.mk (Hs0.out.below hb); clear Hs0; have Hs0 := H'; clear H'
  have H' := Aside0.mk (Hg0.out.below hb); clear Hg0; have Hg0 := H'; clear H'
  have HB' := Aside0.mk (below_step HB.out hb); clear HB; have HB := HB'; clear HB' hb
  go_wp2_with fail
  refine MOwn.named ?_
  intro wa11 hW
  have H' := Aside0.mk (Hs0.out.at (W := wa11) (by subst hW; rfl)); clear Hs0; have Hs0 := H'; clear H'
  have H' := Aside0.mk (Hg0.out.at (W := wa11) (by subst hW; rfl)); clear Hg0; have Hg0 := H'; clear H'
  have HB' := Aside0.mk (show Below w.heap.size w wa11 from (by subst hW; repeat (first | (with_reducible first | exact HB.out | apply below_alloc | apply pw_below_drewN | apply below_drew1) | exact HB.out))); clear HB; have HB := HB'; clear HB' hW
  refine (laws_markPersonS.calls k (fun k_ => lg0_ ≤ k_ ∧ k_ < ug0_) _ r0 1 _ _ w _ HB.out Hg0.out.1 H_Fmr0.out).mono ?_
  rintro e wb11 ⟨rfl, hy, hb, hkp⟩
  have H' := Aside0.mk (Hs0.out.kept hkp (fun k_ h1 h2 h3 => by have := Ss0_g0.out; omega)); clear Hs0; have Hs0 := H'; clear H'
  have H' := Aside0.mk (MOwn.RR.back rfl Hg0.out hy hkp.1); clear Hg0; have Hg0 := H'; clear H' hy
  have HB' := Aside0.mk hb; clear HB; have HB := HB'; clear HB' hb hkp
  go_wp2_with fail
  refine MOwn.named ?_
  intro wa12 hW
  have H' := Aside0.mk (Hs0.out.at (W := wa12) (by subst hW; rfl)); clear Hs0; have Hs0 := H'; clear H'
  have H' := Aside0.mk (Hg0.out.at (W := wa12) (by subst hW; rfl)); clear Hg0; have Hg0 := H'; clear H'
  have HB' := Aside0.mk (show Below w.heap.size w wa12 from (by subst hW; repeat (first | (with_reducible first | exact HB.out | apply below_alloc | apply pw_below_drewN | apply below_drew1) | exact HB.out))); clear HB; have HB := HB'; clear HB' hW
  refine calls_of_args (args' := #[.slice Ag0_ s0.length cg0_, .int .i64 1]) (by rw [Hg0.out.reads.1]) ?_
  refine (laws_heldPersonS.calls k _ _ s0 1 n0 _ (by have h_ := Hg0.out.reads; exact h_.2.2) (by have h_ := Hg0.out.reads; omega) H_Fhe0.out).mono ?_
  rintro e wb12 ⟨rfl, hb⟩
  have H' := Aside0.mk (Hs0.out.below hb); clear Hs0; have Hs0 := H'; clear H'
  have H' := Aside0.mk (Hg0.out.below hb); clear Hg0; have Hg0 := H'; clear H'
  have HB' := Aside0.mk (below_step HB.out hb); clear HB; have HB := HB'; clear HB' hb
  go_wp2_with fail
  refine MOwn.named ?_
  intro wa13 hW
  have H' := Aside0.mk (Hs0.out.at (W := wa13) (by subst hW; rfl)); clear Hs0; have Hs0 := H'; clear H'
  have H' := Aside0.mk (Hg0.out.at (W := wa13) (by subst hW; rfl)); clear Hg0; have Hg0 := H'; clear H'
  have HB' := Aside0.mk (show Below w.heap.size w wa13 from (by subst hW; repeat (first | (with_reducible first | exact HB.out | apply below_alloc | apply pw_below_drewN | apply below_drew1) | exact HB.out))); clear HB; have HB := HB'; clear HB' hW
  refine (laws_toPersonS.calls k _ _ l0 x0 _ (Kd.C_below HR0.out HB.out) HC0.out H_Fto0.out).mono ?_
  rintro e wb13 ⟨vh0, rfl, hoh0, hb⟩
  obtain ⟨lh0_, uh0_, hl_, hr_⟩ : ∃ lo hi, lo = _ ∧ MOwn.RR k69 69 wb13 w.heap.size lo hi vh0 x0 := ⟨_, _, rfl, MOwn.RR.new hoh0 (below_size HB.out)⟩
  have Ss0_h0 := Aside0.mk (show us0_ ≤ lh0_ by rw [hl_]; exact Hs0.out.2)
  have Sg0_h0 := Aside0.mk (show ug0_ ≤ lh0_ by rw [hl_]; exact Hg0.out.2)
  have Hh0 := Aside0.mk hr_; clear hr_ hl_ hoh0
  have H' := Aside0.mk (Hs0.out.below hb); clear Hs0; have Hs0 := H'; clear H'
  have H' := Aside0.mk (Hg0.out.below hb); clear Hg0; have Hg0 := H'; clear H'
  obtain ⟨Ah0_, ch0_, rfl⟩ := Hh0.out.form
  have HB' := Aside0.mk (below_step HB.out hb); clear HB; have HB := HB'; clear HB' hb
  go_wp2_with fail
  refine MOwn.named ?_
  intro wa14 hW
  have H' := Aside0.mk (Hs0.out.at (W := wa14) (by subst hW; rfl)); clear Hs0; have Hs0 := H'; clear H'
  have H' := Aside0.mk (Hg0.out.at (W := wa14) (by subst hW; rfl)); clear Hg0; have Hg0 := H'; clear H'
  have H' := Aside0.mk (Hh0.out.at (W := wa14) (by subst hW; rfl)); clear Hh0; have Hh0 := H'; clear H'
  have HB' := Aside0.mk (show Below w.heap.size w wa14 from (by subst hW; repeat (first | (with_reducible first | exact HB.out | apply below_alloc | apply pw_below_drewN | apply below_drew1) | exact HB.out))); clear HB; have HB := HB'; clear HB' hW
  refine (impl_SolveClashes.calls k _ _ x0 a1 r0 r1 r2 _ Hh0.out.reads.2.2 Hh0.out.reads.2.1 H_Fim.out).mono ?_
  rintro e wb14 ⟨vk0, rfl, hok0, hb⟩
  obtain ⟨lk0_, uk0_, hl_, hr_⟩ : ∃ lo hi, lo = _ ∧ MOwn.RR k69 69 wb14 w.heap.size lo hi vk0 r0 := ⟨_, _, rfl, MOwn.RR.new hok0 (below_size HB.out)⟩
  have Ss0_k0 := Aside0.mk (show us0_ ≤ lk0_ by rw [hl_]; exact Hs0.out.2)
  have Sg0_k0 := Aside0.mk (show ug0_ ≤ lk0_ by rw [hl_]; exact Hg0.out.2)
  have Sh0_k0 := Aside0.mk (show uh0_ ≤ lk0_ by rw [hl_]; exact Hh0.out.2)
  have Hk0 := Aside0.mk hr_; clear hr_ hl_ hok0
  have H' := Aside0.mk (Hs0.out.below hb); clear Hs0; have Hs0 := H'; clear H'
  have H' := Aside0.mk (Hg0.out.below hb); clear Hg0; have Hg0 := H'; clear H'
  have H' := Aside0.mk (Hh0.out.below hb); clear Hh0; have Hh0 := H'; clear H'
  obtain ⟨Ak0_, ck0_, rfl⟩ := Hk0.out.form
  have HB' := Aside0.mk (below_step HB.out hb); clear HB; have HB := HB'; clear HB' hb
  clear Hh0
  go_wp2_with fail
  refine MOwn.named ?_
  intro wa15 hW
  have H' := Aside0.mk (Hs0.out.at (W := wa15) (by subst hW; rfl)); clear Hs0; have Hs0 := H'; clear H'
  have H' := Aside0.mk (Hg0.out.at (W := wa15) (by subst hW; rfl)); clear Hg0; have Hg0 := H'; clear H'
  have H' := Aside0.mk (Hk0.out.at (W := wa15) (by subst hW; rfl)); clear Hk0; have Hk0 := H'; clear H'
  have HB' := Aside0.mk (show Below w.heap.size w wa15 from (by subst hW; repeat (first | (with_reducible first | exact HB.out | apply below_alloc | apply pw_below_drewN | apply below_drew1) | exact HB.out))); clear HB; have HB := HB'; clear HB' hW
  refine (laws_eqPersonS.calls k _ _ r0 _ _ r0 true _ Hk0.out.reads.2.2 Hk0.out.reads.2.1 Hs0.out.reads.2.2 Hs0.out.reads.2.1 H_Feq0.out).mono ?_
  rintro e wb15 ⟨rfl, hb⟩
  have H' := Aside0.mk (Hs0.out.below hb); clear Hs0; have Hs0 := H'; clear H'
  have H' := Aside0.mk (Hg0.out.below hb); clear Hg0; have Hg0 := H'; clear H'
  have H' := Aside0.mk (Hk0.out.below hb); clear Hk0; have Hk0 := H'; clear H'
  have HB' := Aside0.mk (below_step HB.out hb); clear HB; have HB := HB'; clear HB' hb
  go_wp2_with fail
  refine MOwn.named ?_
  intro wa16 hW
  have H' := Aside0.mk (Hs0.out.at (W := wa16) (by subst hW; rfl)); clear Hs0; have Hs0 := H'; clear H'
  have H' := Aside0.mk (Hg0.out.at (W := wa16) (by subst hW; rfl)); clear Hg0; have Hg0 := H'; clear H'
  have H' := Aside0.mk (Hk0.out.at (W := wa16) (by subst hW; rfl)); clear Hk0; have Hk0 := H'; clear H'
  have HB' := Aside0.mk (show Below w.heap.size w wa16 from (by subst hW; repeat (first | (with_reducible first | exact HB.out | apply below_alloc | apply pw_below_drewN | apply below_drew1) | exact HB.out))); clear HB; have HB := HB'; clear HB' hW
  refine calls_of_args (args' := #[.slice Ag0_ s0.length cg0_, .int .i64 1]) (by rw [Hg0.out.reads.1]) ?_
  refine (laws_heldPersonS.calls k _ _ s0 1 n0 _ (by have h_ := Hg0.out.reads; exact h_.2.2) (by have h_ := Hg0.out.reads; omega) H_Fhe0.out).mono ?_
  rintro e wb16 ⟨rfl, hb⟩
  have H' := Aside0.mk (Hs0.out.below hb); clear Hs0; have Hs0 := H'; clear H'
  have H' := Aside0.mk (Hg0.out.below hb); clear Hg0; have Hg0 := H'; clear H'
  have H' := Aside0.mk (Hk0.out.below hb); clear Hk0; have Hk0 := H'; clear H'
  have HB' := Aside0.mk (below_step HB.out hb); clear HB; have HB := HB'; clear HB' hb
  go_wp2
  go_ret
  exact ⟨rfl, by repeat (first | (with_reducible first | exact HB.out | apply below_alloc | apply pw_below_drewN | apply below_drew1) | exact HB.out)⟩

end Go.Proofs.Ytphjmmaeolbggaa.G
