-- Written by this session's own program over the kit's print (wip/tools/myprint.py); Lean checks it.
import Derived.Test.YtphjmmaeolbggaaG0
import Derived.Test.YtphjmmaeolbggaaG7
import Derived.Test.YtphjmmaeolbggaaG14
namespace Go.Proofs.Ytphjmmaeolbggaa.G
open Go.RowKit Go.Proofs.YtphjmmaeolbggaaW.PrintWords Go.Proofs.YtphjmmaeolbggaaW.PrintLast Go.Proofs.YtphjmmaeolbggaaW.PrintMore
attribute [local go_sem] max2_int min2_int max_two min_two max_three min_three max_four min_four str_geq str_gtr str_leq   -- for this text's walks alone
set_option linter.unusedVariables false
set_option linter.unusedSimpArgs false

/-! ### impl_freePlace: function 87 -/
/-- Whether a person has a letter and a place. -/
def impl_freePlace.p (a1 b : Int) (x : S69) : Bool := decide (x.f1 = a1 ∧ x.f2 = b)
/-- The first of the last d of ten places that nobody has, or -1. -/
def impl_freePlace.from (l0 : List S69) (a1 : Int) : Nat → Int
  | 0 => -1
  | d + 1 => if l0.any (impl_freePlace.p a1 (9 - (d : Int))) then impl_freePlace.from l0 a1 d else 9 - (d : Int)
def impl_freePlace.f (l0 : List S69) (a1 : Int) : Option (Int) := some (impl_freePlace.from l0 a1 10)
theorem impl_freePlace.test (a1 b : Int) (x : S69) : impl_Person_clashes.f x.f0 x.f1 x.f2 x.f3 a1 b = some (impl_freePlace.p a1 b x) := by
  unfold impl_Person_clashes.f impl_freePlace.p
  by_cases h : x.f1 = a1
  · rw [if_pos h]; simp [h, Bool.beq_eq_decide_eq]
  · rw [if_neg h]; simp [h]
set_option maxHeartbeats 4000000 in
set_option maxRecDepth 100000 in
theorem impl_freePlace.pred (a1 b : Int) (B C : Nat) (w : World) (hB : B < w.heap.size) (hC : C < w.heap.size) (hb0 : w.cell? ⟨B, 0, none⟩ = some (.int .i64 a1)) (hc0 : w.cell? ⟨C, 0, none⟩ = some (.int .i64 b)) (W : World) (x : S69) (hb : Below w.heap.size w W) :
    Calls Try.prog 117 (#[.agg #[.string x.f0, .int .i64 x.f1, .int .i64 x.f2, .int .i64 x.f3]] ++ #[.pointer (some ⟨B, 0, none⟩), .pointer (some ⟨C, 0, none⟩)]) W fun e w' => e = .returned (.bool (impl_freePlace.p a1 b x)) ∧ Below w.heap.size w w' := by
  have hb1 : W.cell? ⟨B, 0, none⟩ = some (.int .i64 a1) := (hb.cell (p := ⟨B, 0, none⟩) hB).trans hb0
  have hc1 : W.cell? ⟨C, 0, none⟩ = some (.int .i64 b) := (hb.cell (p := ⟨C, 0, none⟩) hC).trans hc0
  have hBW : B < W.heap.size := Nat.lt_of_lt_of_le hB hb.size
  have hne : B ≠ W.heap.size := by omega
  have hCW : C < W.heap.size := Nat.lt_of_lt_of_le hC hb.size
  have hne2 : C ≠ W.heap.size := by omega
  have HT := impl_freePlace.test a1 b x
  have HB := Aside0.mk hb
  clear hb0 hc0 hb hB hC
  generalize impl_freePlace.p a1 b x = q at HT ⊢
  have HT' := Aside0.mk HT
  clear HT
  show Calls Try.prog 117 #[.agg #[.string x.f0, .int .i64 x.f1, .int .i64 x.f2, .int .i64 x.f3], .pointer (some ⟨B, 0, none⟩), .pointer (some ⟨C, 0, none⟩)] W _
  go_enter Try.func117, Try.ntmps117
  go_wp2_with (go_at_call 64; refine (impl_Person_clashes.calls _ _ _ _ _ _ _ _ HT'.out).mono ?_; rintro e w' ⟨rfl, hb2⟩; have HB2 := Aside0.mk hb2; clear hb2)
  go_ret
  exact ⟨rfl, (HB.out.alloc HB.out.size _).trans (HB2.out.mono (by simp; exact Nat.le_succ_of_le HB.out.size))⟩
set_option maxHeartbeats 4000000 in
set_option maxRecDepth 100000 in
theorem impl_freePlace.calls (A0 : Option Addr) (c0 : Nat) (l0 : List S69) (a1 : Int) (r : Int) (w : World) (hr0 : Kd.C k69 w A0 l0.length l0) (hc0 : l0.length ≤ c0) (h : impl_freePlace.f l0 a1 = some r) :
    Calls Try.prog 87 #[.slice A0 l0.length c0, .int .i64 a1] w fun e w' => e = .returned (.int .i64 r) ∧ Below w.heap.size w w' := by
  obtain rfl := Option.some.inj h
  clear h
  have eg : ∀ args w, (callFunc 117 args).run Try.prog w = .ok (.enter 117 args) w := goes_in Try.func117 (by kernel_rfl) rfl
  have HC := Aside0.mk (fun (b : Int) (C : Nat) (W : World) (hb : Below w.heap.size w W) (h1 : w.heap.size < W.heap.size) (h2 : W.cell? ⟨w.heap.size, 0, none⟩ = some (.int .i64 a1)) (h3 : C < W.heap.size) (h4 : W.cell? ⟨C, 0, none⟩ = some (.int .i64 b)) => slices_ContainsFunc_Person.with (impl_freePlace.p a1 b) 117 #[.pointer (some ⟨w.heap.size, 0, none⟩), .pointer (some ⟨C, 0, none⟩)] eg A0 c0 l0 W (Kd.C_below hr0 hb)
    (fun W2 x hb2 => impl_freePlace.pred a1 b w.heap.size C W h1 h3 h2 h4 W2 x hb2))
  clear hr0 hc0 eg
  go_enter Try.func87, Try.ntmps87
  go_wp2_with fail
  have HW := Aside0.mk ((Below.refl _ w).alloc (Nat.le_refl _) (.cells #[.int .i64 a1] 3))
  have hcell : (w.alloc (.cells #[.int .i64 a1] 3)).cell? ⟨w.heap.size, 0, none⟩ = some (.int .i64 a1) := by simp
  have hlt : w.heap.size < (w.alloc (.cells #[.int .i64 a1] 3)).heap.size := by simp
  have HCE := Aside0.mk hcell
  have HLT := Aside0.mk hlt
  clear hcell hlt
  generalize w.alloc (.cells #[.int .i64 a1] 3) = w1 at HW HCE HLT ⊢
  go_loopg [6] 10 (fun gg s6 wr => ∃ j : Nat, s6 = .int .i64 (j : Int) ∧ Aside0 (j ≤ 10 ∧ 10 - j ≤ gg) ∧ Aside0 (impl_freePlace.from l0 a1 10 = impl_freePlace.from l0 a1 (10 - j)) ∧ Aside0 (Below w1.heap.size w1 wr))
  case atStart => exact ⟨0, rfl, ⟨by omega⟩, ⟨rfl⟩, ⟨Below.refl _ _⟩⟩
  case round =>
    obtain ⟨j, rfl, HJ, HF, HB⟩ := hrel
    by_cases hj : j < 10
    · have b1 : decide ((j : Int) < 10) = true := decide_eq_true (by omega)
      have HJ2 := Aside0.mk hj
      have e9 : 10 - j = (9 - j) + 1 := by omega
      have HF2 := Aside0.mk (HF.out.trans (congrArg (impl_freePlace.from l0 a1) e9))
      have e10 : (9 : Int) - ((9 - j : Nat) : Int) = (j : Int) := by omega
      clear hj e9
      go_wp2_with fail
      have hb1 := HB.out.alloc HB.out.size (.cells #[.int .i64 (j : Int)] 3)
      have hsz := HB.out.size
      have hlt := HLT.out
      refine (HC.out (j : Int) wr.heap.size (wr.alloc (.cells #[.int .i64 (j : Int)] 3)) (HW.out.trans (hb1.mono (Nat.le_of_lt hlt))) (by simp; omega) ((hb1.cell (p := ⟨w.heap.size, 0, none⟩) hlt).trans HCE.out) (by simp) (by simp)).mono ?_
      rintro e w2 ⟨rfl, hb2⟩
      have HB2 := Aside0.mk (hb1.trans (hb2.mono (by simp; omega)))
      have HC5 := Aside0.mk ((hb2.cell (p := ⟨wr.heap.size, 0, none⟩) (by simp)).trans (show (wr.alloc (.cells #[.int .i64 (j : Int)] 3)).cell? ⟨wr.heap.size, 0, none⟩ = some (.int .i64 (j : Int)) by simp))
      clear hb1 hb2 hsz hlt
      cases hq : l0.any (impl_freePlace.p a1 (j : Int)) with
      | true =>
        have HF3 := Aside0.mk (HF2.out.trans (show impl_freePlace.from l0 a1 (9 - j + 1) = impl_freePlace.from l0 a1 (9 - j) by rw [impl_freePlace.from, e10, hq]; rfl))
        clear hq e10 HF HF2
        go_wp2
        go_roundg (10 - (j + 1))
        case measure => have := HJ.out; have := HJ2.out; omega
        case rel => exact ⟨j + 1, by have := HJ2.out; rw [show wrap64 ((j : Int) + 1) = ((j + 1 : Nat) : Int) by unfold wrap64; omega], ⟨by have := HJ2.out; omega⟩, ⟨by rw [HF3.out, show 9 - j = 10 - (j + 1) by omega]⟩, ⟨HB2.out⟩⟩
      | false =>
        have HF3 := Aside0.mk (HF2.out.trans (show impl_freePlace.from l0 a1 (9 - j + 1) = (j : Int) by rw [impl_freePlace.from, e10, hq]; rfl))
        clear hq e10 HF HF2
        have hc5 := HC5.out
        go_wp2
        go_ret
        exact ⟨by rw [HF3.out]; rfl, HW.out.trans (HB2.out.mono (Nat.le_of_lt HLT.out))⟩
    · have b1 : decide ((j : Int) < 10) = false := decide_eq_false (by omega)
      have HF3 := Aside0.mk (HF.out.trans (congrArg (impl_freePlace.from l0 a1) (show 10 - j = 0 by omega)))
      clear hj
      go_wp2
      go_ret
      exact ⟨by rw [HF3.out]; rfl, HW.out.trans (HB.out.mono (Nat.le_of_lt HLT.out))⟩

end Go.Proofs.Ytphjmmaeolbggaa.G
