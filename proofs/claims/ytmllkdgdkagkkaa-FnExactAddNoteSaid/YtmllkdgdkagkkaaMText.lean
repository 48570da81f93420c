/- The law's marks as texts: what markText comes to (that it comes to some text, and always to the same). -/
import Derived.Test.YtmllkdgdkagkkaaG3
import Derived.Test.YtmllkdgdkagkkaaMPure
namespace Go.Proofs.Ytmllkdgdkagkkaa.MText
open Go.RowKit Go.Proofs.Ytmllkdgdkagkkaa.G Go.Proofs.YtmllkdgdkagkkaaW.PrintWords Go.Proofs.YtmllkdgdkagkkaaW.PrintLast Go.Proofs.Ytmllkdgdkagkkaa.MPure

theorem one_size (x : Int) : (strOfNums [x]).size = 1 := rfl
theorem markText_loop : ∀ d : Nat, d ≤ 40 → ∀ (a : Int) (s : ByteArray), 0 ≤ a → a < 10 ^ d → a ≤ 4611686018427387904 → s.size + d ≤ 100 → ∃ t, Ev (fun k => laws_markText.l0 k a s) t := by
  intro d
  induction d with
  | zero =>
    intro _ a s h0 h1 _ hs
    refine ⟨_, Ev.step (fun _ => laws_markText.l0.eq_2 ..) (Ev.neg (by simp at h1; omega) (Ev.pos (by omega) (Ev.some rfl)))⟩
  | succ d ih =>
    intro hd a s h0 h1 hb hs
    by_cases hp : a > 0
    · have e : wrap64 (Int.tdiv a 10) = a / 10 := by
        rw [Int.tdiv_eq_ediv_of_nonneg h0, wrap_in (by omega) (by omega)]
      have hlt : a / 10 < 10 ^ d := by
        rw [Int.pow_succ] at h1
        omega
      obtain ⟨t, ht⟩ := ih (by omega) (a / 10) (strOfNums [wrap64 (48 + Int.tmod a 10) % 256] ++ s) (by omega) hlt (by omega) (by rw [ByteArray.size_append, one_size]; omega)
      refine ⟨t, Ev.step (fun _ => laws_markText.l0.eq_2 ..) (Ev.pos hp (Ev.have rfl (Ev.pos (by rw [one_size]; omega) ?_)))⟩
      rw [e]
      exact ht
    · exact ⟨_, Ev.step (fun _ => laws_markText.l0.eq_2 ..) (Ev.neg hp (Ev.pos (by omega) (Ev.some rfl)))⟩
theorem markText_any (a : Int) (h0 : 0 ≤ a) (h1 : a ≤ 4611686018427387904) : ∃ t, Ev (fun k => laws_markText.f k a) t := by
  unfold laws_markText.f
  by_cases h : a ≤ 0
  · exact ⟨_, Ev.pos h (Ev.some rfl)⟩
  · obtain ⟨t, ht⟩ := markText_loop 19 (by omega) a ⟨#[]⟩ h0 (by have : (10 : Int) ^ 19 = 10000000000000000000 := by decide
                                                                 omega) h1 (by decide)
    exact ⟨t, Ev.neg h ht⟩
/-- The text of a mark. -/
noncomputable def mt (a : Int) : ByteArray := if h : 0 ≤ a ∧ a ≤ 4611686018427387904 then Classical.choose (markText_any a h.1 h.2) else ⟨#[]⟩
theorem markText_ (a : Int) (h0 : 0 ≤ a) (h1 : a ≤ 4611686018427387904) : Ev (fun k => laws_markText.f k a) (mt a) := by
  unfold mt
  rw [dif_pos ⟨h0, h1⟩]
  exact Classical.choose_spec (markText_any a h0 h1)
end Go.Proofs.Ytmllkdgdkagkkaa.MText
