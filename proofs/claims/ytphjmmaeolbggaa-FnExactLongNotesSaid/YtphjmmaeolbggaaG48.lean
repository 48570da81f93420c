-- Written by this session's own program over the kit's print (wip/tools/myprint.py); Lean checks it.
import Derived.Test.YtphjmmaeolbggaaG0
import Derived.Test.YtphjmmaeolbggaaMFun
namespace Go.Proofs.Ytphjmmaeolbggaa.G
open Go.RowKit Go.Proofs.YtphjmmaeolbggaaW.PrintWords Go.Proofs.YtphjmmaeolbggaaW.PrintLast Go.Proofs.YtphjmmaeolbggaaW.PrintMore
attribute [local go_sem] max2_int min2_int max_two min_two max_three min_three max_four min_four str_geq str_gtr str_leq   -- for this text's walks alone
set_option linter.unusedVariables false
set_option linter.unusedSimpArgs false

/-! ### impl_those_Note: function 73 -/
set_option maxHeartbeats 4000000 in
set_option maxRecDepth 100000 in
/-- The places at which a predicate holds, with a predicate that leaves all that lay in w as it was. -/
theorem impl_those_Note.with (p : S81 → Bool) (g : Nat) (lb : Array Value) (eg : ∀ args w, (callFunc g args).run Try.prog w = .ok (.enter g args) w) (A0 : Option Addr) (c0 : Nat) (l0 : List S81) (w : World) (hr0 : Kd.C k81 w A0 l0.length l0) (hlen : l0.length ≤ 17592186044416)
    (hp : ∀ (W : World) (x : S81), Below w.heap.size w W → Calls Try.prog g (#[.agg #[.int .i64 x.f0, .int .i64 x.f1, .string x.f2]] ++ lb) W fun e w' => e = .returned (.bool (p x)) ∧ Below W.heap.size W w') :
    Calls Try.prog 73 #[.slice A0 l0.length c0, .func (.func g) #[] lb] w fun e w' => ∃ v : Value, e = .returned v ∧ Kd.R (Kd.int .i64) 3 w' w.heap.size (fun _ => True) v (MFun.places p l0) ∧ Below w.heap.size w w' := by
  have HR := Aside0.mk hr0
  have HP := Aside0.mk hp
  have HL := Aside0.mk hlen
  clear hr0 hp hlen
  go_enter Try.func73, Try.ntmps73
  go_wp2
  go_loopg [5, 10] l0.length (fun gg s5 s10 wr => ∃ x : Int, s10 = .int .i64 x ∧ Aside0 (0 ≤ x ∧ x ≤ (l0.length : Int) ∧ (l0.length : Int) - x ≤ (gg : Int)) ∧ Aside0 (Kd.R (Kd.int .i64) 3 wr w.heap.size (fun _ => True) s5 (MFun.places p (l0.take x.toNat))) ∧ Aside0 (Below w.heap.size w wr))
  case atStart => exact ⟨0, rfl, ⟨by omega⟩, ⟨Kd.R_nil _ _ _ _ _⟩, ⟨Below.refl _ w⟩⟩
  case round =>
    obtain ⟨x, rfl, HX, HO, HB⟩ := hrel
    by_cases hlt : x < (l0.length : Int)
    · have p1 : 0 ≤ x := HX.out.1
      have q1 := hlt
      have hw : wrap64 (x + 1) = x + 1 := by have := HL.out; unfold wrap64; omega
      have HW := Aside0.mk hw
      clear hw
      have HT := Aside0.mk (MFun.places_take p l0 z81 x.toNat (by omega))
      obtain ⟨ad, e, hx0, hx1, hx2⟩ := at_T81 HR.out x p1 q1
      cases e
      have BW := HB
      (replace hx0 := (BW.out.cell (World.block_lt_of_cell? w _ hx0)).trans hx0; replace hx1 := (BW.out.cell (World.block_lt_of_cell? w _ hx1)).trans hx1; replace hx2 := (BW.out.cell (World.block_lt_of_cell? w _ hx2)).trans hx2)
      obtain ⟨y, hy⟩ : ∃ y, rd_T81 l0 x = y := ⟨_, rfl⟩
      rw [hy] at hx0 hx1 hx2
      have HY := Aside0.mk hy
      clear hy
      have HLT := Aside0.mk hlt
      have b1 : decide (x < (l0.length : Int)) = true := decide_eq_true hlt
      clear hlt
      replace p1 := eq_true p1
      replace q1 := eq_true q1
      go_wp2_with fail
      have hb1 := HB.out.alloc HB.out.size (.cells #[.int .i64 y.f0, .int .i64 y.f1, .string y.f2] 81)
      refine (HP.out _ y hb1).mono ?_
      rintro e w2 ⟨rfl, hb2⟩
      have HB2 := Aside0.mk (hb1.trans (hb2.mono (by simp; have := HB.out.size; omega)))
      have HO2 := Aside0.mk (Kd.R_below (w1 := w2) (by (with_reducible repeat (first | apply Kd.R_alloc | apply Kd.R_drewN | apply Kd.R_drew)); exact HO.out : Kd.R (Kd.int .i64) 3 (wr.alloc (.cells #[.int .i64 y.f0, .int .i64 y.f1, .string y.f2] 81)) w.heap.size (fun _ => True) u5 (MFun.places p (l0.take x.toNat))) hb2)
      clear hb1 hb2
      have HE := Aside0.mk (show l0.getD x.toNat z81 = y from HY.out)
      have HN := Aside0.mk (show (MFun.places p (l0.take x.toNat)).length ≤ x.toNat from Nat.le_trans (MFun.places_length p _ 0) (by simp; omega))
      cases hq : p y with
      | true =>
        have HT2 := Aside0.mk (HT.out.trans (by rw [HE.out, hq]; rfl : _ = MFun.places p (l0.take x.toNat) ++ [((x.toNat : Nat) : Int)]))
        have HI := Aside0.mk (show ((x.toNat : Nat) : Int) = x from Int.toNat_of_nonneg HX.out.1)
        clear hq HT
        go_wp2_with (first | ((with_reducible refine gate_builtin (b := .append) (xs := #[.tmp 18, .tmp 20]) rfl ?_); at_builtin; refine Kd.R_append (Kd.int .i64) (w0 := w) w.heap.size rfl (.tmp 18) (.tmp 20) 24 3 (.int .i64 0) 8 rfl Try.underlying24 info3 rfl (by decide) (by omega) u5 (MFun.places p (l0.take x.toNat)) x [.int .i64 x] (fun _ => True) (fun _ => False) rfl (by first | (go_simp; done) | (go_simp; rfl)) ?aP (fun _ hk => hk.elim) ?aF ?aO ?aB ?aS ?aL ?_; (case aP => exact rfl); (case aF => exact (fun _ _ => trivial)); (case aO => exact HO2.out); (case aB => exact HB2.out); (case aS => exact HB2.out.size); (case aL => have := HN.out; have := HLT.out; have := HL.out; omega); intro v1 w3 ho hb hg hat; have HO3 := Aside0.mk ho; have HB3 := Aside0.mk hb; clear ho hb hg hat))
        go_roundg (l0.length - (x.toNat + 1))
        case measure => have := HX.out; have := HLT.out; omega
        case rel => exact ⟨x + 1, by first | rfl | (rw [HW.out]) | (simp [HW.out]), ⟨by have := HX.out; have := HLT.out; omega⟩, ⟨by rw [show (x + 1).toNat = x.toNat + 1 by have := HX.out; omega, HT2.out, HI.out]; exact HO3.out⟩, ⟨HB3.out⟩⟩
      | false =>
        have HT2 := Aside0.mk (HT.out.trans (by rw [HE.out, hq]; rfl : _ = MFun.places p (l0.take x.toNat)))
        clear hq HT
        go_wp2
        go_roundg (l0.length - (x.toNat + 1))
        case measure => have := HX.out; have := HLT.out; omega
        case rel => exact ⟨x + 1, by first | rfl | (rw [HW.out]) | (simp [HW.out]), ⟨by have := HX.out; have := HLT.out; omega⟩, ⟨by rw [show (x + 1).toNat = x.toNat + 1 by have := HX.out; omega, HT2.out]; exact HO2.out⟩, ⟨HB2.out⟩⟩
    · have b1 : decide (x < (l0.length : Int)) = false := decide_eq_false hlt
      have HLT := Aside0.mk hlt
      have HE := Aside0.mk (show l0.take x.toNat = l0 from List.take_of_length_le (by have := HX.out; omega))
      clear hlt
      go_wp2
      go_ret
      exact ⟨_, rfl, by have h := HO.out; rw [HE.out] at h; exact h, HB.out⟩

end Go.Proofs.Ytphjmmaeolbggaa.G
