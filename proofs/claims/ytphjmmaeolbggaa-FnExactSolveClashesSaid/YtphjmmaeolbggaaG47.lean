-- Written by this session's own program over the kit's print (wip/tools/myprint.py); Lean checks it.
import Derived.Test.YtphjmmaeolbggaaG0
import Derived.Test.YtphjmmaeolbggaaG7
import Derived.Test.YtphjmmaeolbggaaG14
import Derived.Test.YtphjmmaeolbggaaMOwn
namespace Go.Proofs.Ytphjmmaeolbggaa.G
open Go.RowKit Go.Proofs.YtphjmmaeolbggaaW.PrintWords Go.Proofs.YtphjmmaeolbggaaW.PrintLast Go.Proofs.YtphjmmaeolbggaaW.PrintMore
attribute [local go_sem] max2_int min2_int max_two min_two max_three min_three max_four min_four str_geq str_gtr str_leq   -- for this text's walks alone
set_option linter.unusedVariables false
set_option linter.unusedSimpArgs false

/-! ### impl_changes: function 84 -/
/-- Whether x has the sign of y and has it no later. -/
def impl_changes.older (y x : S69) : Bool := decide (x.f1 = y.f1 ∧ x.f2 = y.f2) && decide (x.f3 ≤ y.f3)
def impl_changes.later (y x : S69) : Bool := decide (x.f1 = y.f1 ∧ x.f2 = y.f2) && decide (x.f3 < y.f3)
/-- Whether the i-th one has to change. -/
def impl_changes.hit (l0 : List S69) (i : Nat) : Bool := (l0.take i).any (impl_changes.older (l0.getD i z69)) || (l0.drop (i + 1)).any (impl_changes.later (l0.getD i z69))
def impl_changes.upto (l0 : List S69) : Nat → List Int
  | 0 => []
  | n + 1 => if impl_changes.hit l0 n then impl_changes.upto l0 n ++ [(n : Int)] else impl_changes.upto l0 n
theorem impl_changes.upto_length (l0 : List S69) : ∀ n, (impl_changes.upto l0 n).length ≤ n
  | 0 => Nat.le_refl _
  | n + 1 => by
    have := impl_changes.upto_length l0 n
    rw [impl_changes.upto]
    split
    · simp; omega
    · omega
def impl_changes.f (l0 : List S69) : Option (List Int) := if l0.length ≤ 17592186044416 then some (impl_changes.upto l0 l0.length) else none
theorem impl_changes.test (y x : S69) : impl_Person_clashes.f x.f0 x.f1 x.f2 x.f3 y.f1 y.f2 = some (decide (x.f1 = y.f1 ∧ x.f2 = y.f2)) := by
  unfold impl_Person_clashes.f
  by_cases h : x.f1 = y.f1
  · rw [if_pos h]; simp [h, Bool.beq_eq_decide_eq]
  · rw [if_neg h]; simp [h]
set_option maxHeartbeats 4000000 in
set_option maxRecDepth 100000 in
theorem impl_changes.pred1 (y : S69) (B : Nat) (w : World) (hB : B < w.heap.size) (g1 : w.cell? ⟨B, 1, none⟩ = some (.int .i64 y.f1)) (g2 : w.cell? ⟨B, 2, none⟩ = some (.int .i64 y.f2)) (g3 : w.cell? ⟨B, 3, none⟩ = some (.int .i64 y.f3)) (W : World) (x : S69) (hb : Below w.heap.size w W) :
    Calls Try.prog 115 (#[.agg #[.string x.f0, .int .i64 x.f1, .int .i64 x.f2, .int .i64 x.f3]] ++ #[.pointer (some ⟨B, 0, none⟩)]) W fun e w' => e = .returned (.bool (impl_changes.older y x)) ∧ Below w.heap.size w w' := by
  have hc1 : W.cell? ⟨B, 1, none⟩ = some (.int .i64 y.f1) := (hb.cell (p := ⟨B, 1, none⟩) hB).trans g1
  have hc2 : W.cell? ⟨B, 2, none⟩ = some (.int .i64 y.f2) := (hb.cell (p := ⟨B, 2, none⟩) hB).trans g2
  have hc3 : W.cell? ⟨B, 3, none⟩ = some (.int .i64 y.f3) := (hb.cell (p := ⟨B, 3, none⟩) hB).trans g3
  have hBW : B < W.heap.size := Nat.lt_of_lt_of_le hB hb.size
  have hne : B ≠ W.heap.size := by omega
  have HT := Aside0.mk (impl_changes.test y x)
  have HB := Aside0.mk hb
  have HBW := Aside0.mk hBW
  clear g1 g2 g3 hb hB
  show Calls Try.prog 115 #[.agg #[.string x.f0, .int .i64 x.f1, .int .i64 x.f2, .int .i64 x.f3], .pointer (some ⟨B, 0, none⟩)] W _
  unfold impl_changes.older
  obtain ⟨d, hd⟩ : ∃ d, decide (x.f1 = y.f1 ∧ x.f2 = y.f2) = d := ⟨_, rfl⟩
  rw [hd] at HT ⊢
  clear hd
  go_enter Try.func115, Try.ntmps115
  go_wp2_with fail
  refine (impl_Person_clashes.calls _ _ _ _ _ _ _ _ HT.out).mono ?_
  rintro e w2 ⟨rfl, hb2⟩
  have hx3 : w2.cell? ⟨W.heap.size, 3, none⟩ = some (.int .i64 x.f3) := (hb2.cell (p := ⟨W.heap.size, 3, none⟩) (by simp)).trans (by simp)
  have hy3 : w2.cell? ⟨B, 3, none⟩ = some (.int .i64 y.f3) := (hb2.cell (p := ⟨B, 3, none⟩) (by simp; exact Nat.lt_succ_of_lt HBW.out)).trans ((World.cell?_alloc_lt _ _ _ HBW.out).trans hc3)
  have HB2 := Aside0.mk hb2
  clear hb2 HT
  cases d with
  | true =>
    go_wp2
    go_ret
    exact ⟨by simp, (HB.out.alloc HB.out.size _).trans (HB2.out.mono (by simp; exact Nat.le_succ_of_le HB.out.size))⟩
  | false =>
    go_wp2
    go_ret
    exact ⟨by simp, (HB.out.alloc HB.out.size _).trans (HB2.out.mono (by simp; exact Nat.le_succ_of_le HB.out.size))⟩
set_option maxHeartbeats 4000000 in
set_option maxRecDepth 100000 in
theorem impl_changes.pred2 (y : S69) (B : Nat) (w : World) (hB : B < w.heap.size) (g1 : w.cell? ⟨B, 1, none⟩ = some (.int .i64 y.f1)) (g2 : w.cell? ⟨B, 2, none⟩ = some (.int .i64 y.f2)) (g3 : w.cell? ⟨B, 3, none⟩ = some (.int .i64 y.f3)) (W : World) (x : S69) (hb : Below w.heap.size w W) :
    Calls Try.prog 116 (#[.agg #[.string x.f0, .int .i64 x.f1, .int .i64 x.f2, .int .i64 x.f3]] ++ #[.pointer (some ⟨B, 0, none⟩)]) W fun e w' => e = .returned (.bool (impl_changes.later y x)) ∧ Below w.heap.size w w' := by
  have hc1 : W.cell? ⟨B, 1, none⟩ = some (.int .i64 y.f1) := (hb.cell (p := ⟨B, 1, none⟩) hB).trans g1
  have hc2 : W.cell? ⟨B, 2, none⟩ = some (.int .i64 y.f2) := (hb.cell (p := ⟨B, 2, none⟩) hB).trans g2
  have hc3 : W.cell? ⟨B, 3, none⟩ = some (.int .i64 y.f3) := (hb.cell (p := ⟨B, 3, none⟩) hB).trans g3
  have hBW : B < W.heap.size := Nat.lt_of_lt_of_le hB hb.size
  have hne : B ≠ W.heap.size := by omega
  have HT := Aside0.mk (impl_changes.test y x)
  have HB := Aside0.mk hb
  have HBW := Aside0.mk hBW
  clear g1 g2 g3 hb hB
  show Calls Try.prog 116 #[.agg #[.string x.f0, .int .i64 x.f1, .int .i64 x.f2, .int .i64 x.f3], .pointer (some ⟨B, 0, none⟩)] W _
  unfold impl_changes.later
  obtain ⟨d, hd⟩ : ∃ d, decide (x.f1 = y.f1 ∧ x.f2 = y.f2) = d := ⟨_, rfl⟩
  rw [hd] at HT ⊢
  clear hd
  go_enter Try.func116, Try.ntmps116
  go_wp2_with fail
  refine (impl_Person_clashes.calls _ _ _ _ _ _ _ _ HT.out).mono ?_
  rintro e w2 ⟨rfl, hb2⟩
  have hx3 : w2.cell? ⟨W.heap.size, 3, none⟩ = some (.int .i64 x.f3) := (hb2.cell (p := ⟨W.heap.size, 3, none⟩) (by simp)).trans (by simp)
  have hy3 : w2.cell? ⟨B, 3, none⟩ = some (.int .i64 y.f3) := (hb2.cell (p := ⟨B, 3, none⟩) (by simp; exact Nat.lt_succ_of_lt HBW.out)).trans ((World.cell?_alloc_lt _ _ _ HBW.out).trans hc3)
  have HB2 := Aside0.mk hb2
  clear hb2 HT
  cases d with
  | true =>
    go_wp2
    go_ret
    exact ⟨by simp, (HB.out.alloc HB.out.size _).trans (HB2.out.mono (by simp; exact Nat.le_succ_of_le HB.out.size))⟩
  | false =>
    go_wp2
    go_ret
    exact ⟨by simp, (HB.out.alloc HB.out.size _).trans (HB2.out.mono (by simp; exact Nat.le_succ_of_le HB.out.size))⟩
set_option maxHeartbeats 8000000 in
set_option maxRecDepth 100000 in
theorem impl_changes.calls (A0 : Option Addr) (c0 : Nat) (l0 : List S69) (r : List Int) (w : World) (hr0 : Kd.C k69 w A0 l0.length l0) (hc0 : l0.length ≤ c0) (h : impl_changes.f l0 = some r) :
    Calls Try.prog 84 #[.slice A0 l0.length c0] w fun e w' => ∃ v0_ : Value, e = .returned (v0_) ∧ Kd.R (Kd.int .i64) 3 w' w.heap.size (fun _ => True) v0_ r ∧ Below w.heap.size w w' := by
  by_cases hlen : l0.length ≤ 17592186044416
  case neg => simp [impl_changes.f, hlen] at h
  rw [impl_changes.f, if_pos hlen] at h
  obtain rfl := Option.some.inj h
  clear h
  have eg1 := Aside0.mk (show ∀ args w, (callFunc 115 args).run Try.prog w = .ok (.enter 115 args) w from goes_in Try.func115 (by kernel_rfl) rfl)
  have eg2 := Aside0.mk (show ∀ args w, (callFunc 116 args).run Try.prog w = .ok (.enter 116 args) w from goes_in Try.func116 (by kernel_rfl) rfl)
  have HR := Aside0.mk hr0
  have HCC := Aside0.mk hc0
  have HL := Aside0.mk hlen
  clear hr0 hc0 hlen
  obtain ⟨i0, hi0, _, hsz0, _⟩ := info_parts info69
  have HI0 := Aside0.mk hi0
  have HSZ0 := Aside0.mk hsz0
  clear hi0 hsz0
  go_enter Try.func84, Try.ntmps84
  go_wp2
  go_loopg [3, 10] l0.length (fun gg s3 s10 wr => ∃ x : Int, s10 = .int .i64 x ∧ Aside0 (0 ≤ x ∧ x ≤ (l0.length : Int) ∧ (l0.length : Int) - x ≤ (gg : Int)) ∧ Aside0 (Kd.R (Kd.int .i64) 3 wr w.heap.size (fun _ => True) s3 (impl_changes.upto l0 x.toNat)) ∧ Aside0 (Below w.heap.size w wr))
  case atStart => exact ⟨0, rfl, ⟨by omega⟩, ⟨Kd.R_nil _ _ _ _ _⟩, ⟨Below.refl _ w⟩⟩
  case round =>
    obtain ⟨x, rfl, HX, HO, HB⟩ := hrel
    by_cases hlt : x < (l0.length : Int)
    · have p1 : 0 ≤ x := HX.out.1
      have q1 := hlt
      have hw : wrap64 (x + 1) = x + 1 := by have := HL.out; unfold wrap64; omega
      have HW := Aside0.mk hw
      obtain ⟨ad, e, hx0, hx1, hx2, hx3⟩ := at_T69 (Kd.C_below HR.out HB.out) x p1 q1
      cases e
      obtain ⟨y, hy⟩ : ∃ y, rd_T69 l0 x = y := ⟨_, rfl⟩
      rw [hy] at hx0 hx1 hx2 hx3
      have HY := Aside0.mk hy
      clear hy
      have HLT := Aside0.mk hlt
      have b1 : decide (x < (l0.length : Int)) = true := decide_eq_true hlt
      have hcut1 := cut_to (P := Try.prog) 27 69 .i64 Try.underlying27 HI0.out (some ad) l0.length c0 x p1 (by omega) HCC.out
      have hcut2 := cut_from (P := Try.prog) 27 69 .i64 Try.underlying27 HI0.out _ HSZ0.out (some ad) l0.length c0 (x + 1) (by omega) (by omega)
      obtain ⟨l1, hl1⟩ : ∃ l1, l1 = l0.take x.toNat := ⟨_, rfl⟩
      obtain ⟨l2, hl2⟩ : ∃ l2, l2 = l0.drop (x.toNat + 1) := ⟨_, rfl⟩
      have HT1 := Aside0.mk (fun (W : World) (hb : Below w.heap.size w W) => (by rw [hl1]; exact Kd.C_take (m := x.toNat) (Kd.C_below HR.out hb) (by omega) : Kd.C k69 W (some ad) l1.length l1))
      have HT2 := Aside0.mk (fun (W : World) (hb : Below w.heap.size w W) => (by rw [hl2]; exact Kd.C_drop (m := x.toNat + 1) (c := c0) (Kd.C_below HR.out hb) (by omega) HCC.out : Kd.C k69 W (if c0 = x.toNat + 1 then some ad else (some ad).map (·.add ((x.toNat + 1) * (k69).sz))) l2.length l2))
      have hy1 : l1.length = x.toNat := by rw [hl1, List.length_take]; omega
      have hy2 : l2.length = l0.length - (x.toNat + 1) := by rw [hl2]; exact List.length_drop
      have hx1 : (x + 1).toNat = x.toNat + 1 := by omega
      rw [← hy1] at hcut1
      rw [hx1, ← hy2] at hcut2
      obtain ⟨A2, hA2⟩ : ∃ A2, A2 = (if c0 = x.toNat + 1 then some ad else (some ad).map (·.add ((x.toNat + 1) * (k69).sz))) := ⟨_, rfl⟩
      rw [← hA2] at HT2
      replace hcut2 : ∀ W : World, (Instr.slice 27 (.slice (some ad) l0.length c0) (some (.int .i64 (x + 1))) none none).run Try.prog W = .ok (.slice A2 l2.length (c0 - (x.toNat + 1))) W := by rw [hA2]; exact hcut2
      have HCC1 := Aside0.mk (show l1.length ≤ c0 by have := HCC.out; omega)
      have HHIT := Aside0.mk (show impl_changes.hit l0 x.toNat = (l1.any (impl_changes.older y) || l2.any (impl_changes.later y)) by unfold impl_changes.hit; rw [show l0.getD x.toNat z69 = y from HY.out, hl1, hl2])
      have HN := Aside0.mk (impl_changes.upto_length l0 x.toNat)
      have hp2 : 0 ≤ x + 1 := by omega
      clear hlt hy1 hy2 hx1 hl1 hl2 hA2
      replace p1 := eq_true p1
      replace q1 := eq_true q1
      go_wp2_with fail
      have hb1 := HB.out.alloc HB.out.size (.cells #[.string y.f0, .int .i64 y.f1, .int .i64 y.f2, .int .i64 y.f3] 69)
      have hs0 := HB.out.size
      refine (slices_ContainsFunc_Person.with (impl_changes.older y) 115 #[.pointer (some ⟨wr.heap.size, 0, none⟩)] eg1.out (some ad) c0 l1 _ (HT1.out _ hb1) (fun W z hb => impl_changes.pred1 y wr.heap.size _ (by simp) (by simp) (by simp) (by simp) W z hb)).mono ?_
      rintro e w2 ⟨rfl, hb2⟩
      have HB2 := Aside0.mk (hb1.trans (hb2.mono (by simp; omega)))
      have k1 : w2.cell? ⟨wr.heap.size, 1, none⟩ = some (.int .i64 y.f1) := (hb2.cell (p := ⟨wr.heap.size, 1, none⟩) (by simp)).trans (by simp)
      have k2 : w2.cell? ⟨wr.heap.size, 2, none⟩ = some (.int .i64 y.f2) := (hb2.cell (p := ⟨wr.heap.size, 2, none⟩) (by simp)).trans (by simp)
      have k3 : w2.cell? ⟨wr.heap.size, 3, none⟩ = some (.int .i64 y.f3) := (hb2.cell (p := ⟨wr.heap.size, 3, none⟩) (by simp)).trans (by simp)
      have klt : wr.heap.size < w2.heap.size := Nat.lt_of_lt_of_le (by simp) hb2.size
      have HK1 := Aside0.mk k1
      have HK2 := Aside0.mk k2
      have HK3 := Aside0.mk k3
      have HKL := Aside0.mk klt
      have HO2 := Aside0.mk (Kd.R_below (w1 := w2) (by (with_reducible repeat (first | apply Kd.R_alloc | apply Kd.R_drewN | apply Kd.R_drew)); exact HO.out : Kd.R (Kd.int .i64) 3 (wr.alloc (.cells #[.string y.f0, .int .i64 y.f1, .int .i64 y.f2, .int .i64 y.f3] 69)) w.heap.size (fun _ => True) u3 (impl_changes.upto l0 x.toNat)) hb2)
      clear hb1 hs0 hb2 k1 k2 k3 klt HO HB
      obtain ⟨d1, hd1⟩ : ∃ d, l1.any (impl_changes.older y) = d := ⟨_, rfl⟩
      rw [hd1] at HHIT ⊢
      clear hd1
      go_wp2_with fail
      refine MOwn.named ?_
      intro w3 hW3
      have HB2' := Aside0.mk (show Below w.heap.size w w3 by subst hW3; repeat (first | (with_reducible first | exact HB2.out | apply pw_below_drewN | apply below_drew1) | exact HB2.out))
      have HO2' := Aside0.mk (Kd.R_step (w1 := w3) HO2.out (fun k _ _ => by subst hW3; rfl))
      have HKS := Aside0.mk (show w3.cell? ⟨wr.heap.size, 1, none⟩ = some (.int .i64 y.f1) ∧ w3.cell? ⟨wr.heap.size, 2, none⟩ = some (.int .i64 y.f2) ∧ w3.cell? ⟨wr.heap.size, 3, none⟩ = some (.int .i64 y.f3) ∧ wr.heap.size < w3.heap.size by subst hW3; exact ⟨HK1.out, HK2.out, HK3.out, HKL.out⟩)
      clear HB2 HO2 HK1 HK2 HK3 HKL hW3
      refine (slices_ContainsFunc_Person.with (impl_changes.later y) 116 #[.pointer (some ⟨wr.heap.size, 0, none⟩)] eg2.out A2 (c0 - (x.toNat + 1)) l2 w3 (HT2.out _ HB2'.out) (fun W z hb => impl_changes.pred2 y wr.heap.size w3 HKS.out.2.2.2 HKS.out.1 HKS.out.2.1 HKS.out.2.2.1 W z hb)).mono ?_
      rintro e w4' ⟨rfl, hb3⟩
      have HB3 := Aside0.mk (HB2'.out.trans (hb3.mono HB2'.out.size))
      have HO3 := Aside0.mk (Kd.R_below HO2'.out hb3)
      clear hb3 HB2' HO2' HKS
      obtain ⟨d2, hd2⟩ : ∃ d, l2.any (impl_changes.later y) = d := ⟨_, rfl⟩
      rw [hd2] at HHIT ⊢
      clear hd2
      have hcases : (d1 = true ∨ d2 = true) ∨ (d1 = false ∧ d2 = false) := by cases d1 <;> cases d2 <;> simp
      rcases hcases with (h1 | h1) | ⟨h1, h2⟩
      · subst h1
        rw [Bool.true_or] at HHIT
        have HT3 := Aside0.mk (show impl_changes.upto l0 (x.toNat + 1) = impl_changes.upto l0 x.toNat ++ [x] by rw [impl_changes.upto, HHIT.out]; simp [Int.toNat_of_nonneg HX.out.1])
        clear HHIT
        go_wp2_with (first | ((with_reducible refine gate_builtin (b := .append) (xs := #[.tmp 30, .tmp 32]) rfl ?_); at_builtin; refine Kd.R_append (Kd.int .i64) (w0 := w) w.heap.size rfl (.tmp 30) (.tmp 32) 24 3 (.int .i64 0) 8 rfl Try.underlying24 info3 rfl (by decide) (by omega) u3 (impl_changes.upto l0 x.toNat) x [.int .i64 x] (fun _ => True) (fun _ => False) rfl (by first | (go_simp; done) | (go_simp; rfl)) ?aP (fun _ hk => hk.elim) ?aF ?aO ?aB ?aS ?aL ?_; (case aP => exact rfl); (case aF => exact (fun _ _ => trivial)); (case aO => exact HO3.out); (case aB => exact HB3.out); (case aS => exact HB3.out.size); (case aL => have := HN.out; have := HLT.out; have := HL.out; omega); intro v1 w4 ho hb hg hat; have HO4 := Aside0.mk ho; have HB4 := Aside0.mk hb; clear ho hb hg hat))
        go_roundg (l0.length - (x.toNat + 1))
        case measure => have := HX.out; have := HLT.out; omega
        case rel => exact ⟨x + 1, by first | rfl | (rw [HW.out]) | (simp [HW.out]), ⟨by have := HX.out; have := HLT.out; omega⟩, ⟨by rw [show (x + 1).toNat = x.toNat + 1 by have := HX.out; omega, HT3.out]; exact HO4.out⟩, ⟨HB4.out⟩⟩
      · subst h1
        rw [Bool.or_true] at HHIT
        cases d1 with
        | true =>
          have HT3 := Aside0.mk (show impl_changes.upto l0 (x.toNat + 1) = impl_changes.upto l0 x.toNat ++ [x] by rw [impl_changes.upto, HHIT.out]; simp [Int.toNat_of_nonneg HX.out.1])
          clear HHIT
          go_wp2_with (first | ((with_reducible refine gate_builtin (b := .append) (xs := #[.tmp 30, .tmp 32]) rfl ?_); at_builtin; refine Kd.R_append (Kd.int .i64) (w0 := w) w.heap.size rfl (.tmp 30) (.tmp 32) 24 3 (.int .i64 0) 8 rfl Try.underlying24 info3 rfl (by decide) (by omega) u3 (impl_changes.upto l0 x.toNat) x [.int .i64 x] (fun _ => True) (fun _ => False) rfl (by first | (go_simp; done) | (go_simp; rfl)) ?aP (fun _ hk => hk.elim) ?aF ?aO ?aB ?aS ?aL ?_; (case aP => exact rfl); (case aF => exact (fun _ _ => trivial)); (case aO => exact HO3.out); (case aB => exact HB3.out); (case aS => exact HB3.out.size); (case aL => have := HN.out; have := HLT.out; have := HL.out; omega); intro v1 w4 ho hb hg hat; have HO4 := Aside0.mk ho; have HB4 := Aside0.mk hb; clear ho hb hg hat))
          go_roundg (l0.length - (x.toNat + 1))
          case measure => have := HX.out; have := HLT.out; omega
          case rel => exact ⟨x + 1, by first | rfl | (rw [HW.out]) | (simp [HW.out]), ⟨by have := HX.out; have := HLT.out; omega⟩, ⟨by rw [show (x + 1).toNat = x.toNat + 1 by have := HX.out; omega, HT3.out]; exact HO4.out⟩, ⟨HB4.out⟩⟩
        | false =>
          have HT3 := Aside0.mk (show impl_changes.upto l0 (x.toNat + 1) = impl_changes.upto l0 x.toNat ++ [x] by rw [impl_changes.upto, HHIT.out]; simp [Int.toNat_of_nonneg HX.out.1])
          clear HHIT
          go_wp2_with (first | ((with_reducible refine gate_builtin (b := .append) (xs := #[.tmp 30, .tmp 32]) rfl ?_); at_builtin; refine Kd.R_append (Kd.int .i64) (w0 := w) w.heap.size rfl (.tmp 30) (.tmp 32) 24 3 (.int .i64 0) 8 rfl Try.underlying24 info3 rfl (by decide) (by omega) u3 (impl_changes.upto l0 x.toNat) x [.int .i64 x] (fun _ => True) (fun _ => False) rfl (by first | (go_simp; done) | (go_simp; rfl)) ?aP (fun _ hk => hk.elim) ?aF ?aO ?aB ?aS ?aL ?_; (case aP => exact rfl); (case aF => exact (fun _ _ => trivial)); (case aO => exact HO3.out); (case aB => exact HB3.out); (case aS => exact HB3.out.size); (case aL => have := HN.out; have := HLT.out; have := HL.out; omega); intro v1 w4 ho hb hg hat; have HO4 := Aside0.mk ho; have HB4 := Aside0.mk hb; clear ho hb hg hat))
          go_roundg (l0.length - (x.toNat + 1))
          case measure => have := HX.out; have := HLT.out; omega
          case rel => exact ⟨x + 1, by first | rfl | (rw [HW.out]) | (simp [HW.out]), ⟨by have := HX.out; have := HLT.out; omega⟩, ⟨by rw [show (x + 1).toNat = x.toNat + 1 by have := HX.out; omega, HT3.out]; exact HO4.out⟩, ⟨HB4.out⟩⟩
      · subst h1
        subst h2
        have HT3 := Aside0.mk (show impl_changes.upto l0 (x.toNat + 1) = impl_changes.upto l0 x.toNat by rw [impl_changes.upto, HHIT.out]; simp)
        clear HHIT
        go_wp2
        go_roundg (l0.length - (x.toNat + 1))
        case measure => have := HX.out; have := HLT.out; omega
        case rel => exact ⟨x + 1, by first | rfl | (rw [HW.out]) | (simp [HW.out]), ⟨by have := HX.out; have := HLT.out; omega⟩, ⟨by rw [show (x + 1).toNat = x.toNat + 1 by have := HX.out; omega, HT3.out]; exact HO3.out⟩, ⟨HB3.out⟩⟩
    · have b1 : decide (x < (l0.length : Int)) = false := decide_eq_false hlt
      have e : x.toNat = l0.length := by have := HX.out; omega
      have h := HO.out
      rw [e] at h
      have HO2 := Aside0.mk h
      clear hlt e h HO
      go_wp2
      go_ret
      exact ⟨_, rfl, HO2.out, HB.out⟩

end Go.Proofs.Ytphjmmaeolbggaa.G
