/- LongNotes of the program returns what that of the reference returns, for every list of notes and every number, and in memory of its own; no condition beyond what every row's reading gives. -/
import Derived.Test.YtphjmmaeolbggaaG0
import Derived.Test.YtphjmmaeolbggaaG12
import Derived.Test.YtphjmmaeolbggaaG49
import Derived.Test.YtphjmmaeolbggaaMNote
import Derived.Test.YtphjmmaeolbggaaMMarkN
import Derived.Test.YtphjmmaeolbggaaMMarkI
import Derived.Test.YtphjmmaeolbggaaMFun
namespace Go.Proofs.Ytphjmmaeolbggaa.Pure
open Go.RowKit Go.Proofs.Ytphjmmaeolbggaa.G Go.Proofs.YtphjmmaeolbggaaW.PrintWords Go.Proofs.YtphjmmaeolbggaaW.PrintLast Go.Proofs.Ytphjmmaeolbggaa.MPure Go.Proofs.Ytphjmmaeolbggaa.MWord Go.Proofs.Ytphjmmaeolbggaa.MNote Go.Proofs.Ytphjmmaeolbggaa.MMarkN Go.Proofs.Ytphjmmaeolbggaa.MMarkI

theorem long_loop (l : List NI) (hl : l.length ≤ 4398046511104) (a : Int) : Ev (fun k => spec_LongNotes.l0 k a [] l (l.length : Int) 0) (MFun.places (impl_LongNotes.p a) l, true) := by
  have key : ∀ d i : Nat, i + d = l.length → Ev (fun k => spec_LongNotes.l0 k a (MFun.places (impl_LongNotes.p a) (l.take i)) l (l.length : Int) (i : Int)) (MFun.places (impl_LongNotes.p a) l, true) := by
    intro d
    induction d with
    | zero =>
      intro i hi
      rw [List.take_of_length_le (by omega)]
      exact Ev.step (fun _ => spec_LongNotes.l0.eq_2 ..) (Ev.neg (by omega) (Ev.some rfl))
    | succ d ih =>
      intro i hi
      have h := ih (i + 1) (by omega)
      have hn : (MFun.places (impl_LongNotes.p a) (l.take i)).length ≤ i := Nat.le_trans (MFun.places_length _ _ 0) (by simp; omega)
      rw [MFun.places_take _ l z81 i (by omega), ← wrap_succ (by omega)] at h
      refine Ev.step (fun _ => spec_LongNotes.l0.eq_2 ..) (Ev.pos (by omega) (Ev.pos (by omega) (Ev.pos (by omega) (Ev.ite (fun hg => Ev.pos (by omega) ?_) (fun hg => ?_)))))
      · have e : impl_LongNotes.p a (l.getD i z81) = true := decide_eq_true hg
        rw [if_pos e] at h
        exact h
      · have e : impl_LongNotes.p a (l.getD i z81) = false := decide_eq_false hg
        rw [e] at h
        exact h
  exact key l.length 0 (by omega)
def longR (l : List NI) (a : Int) : List Int × Bool := if tierB l = true ∧ frameB a = true then (MFun.places (impl_LongNotes.p a) l, true) else ([], false)
theorem longR_length (l : List NI) (a : Int) : (longR l a).1.length ≤ l.length := by
  unfold longR
  split
  · exact MFun.places_length _ _ 0
  · exact Nat.zero_le _
theorem LongNotes_s (l : List NI) (hl : Sized l) (hl2 : l.length ≤ 4398046511104) (a : Int) : Ev (fun k => spec_LongNotes.f k l a) (longR l a) := by
  unfold spec_LongNotes.f longR
  refine Ev.bind (tiGood_ l hl) (Ev.ite (fun h1 => Ev.have (tiFrame_ a) (Ev.step (fun _ => spec_LongNotes.j0.eq_2 ..) (Ev.ite (fun h2 => Ev.some ?_) (fun h2 => Ev.eq (long_loop l hl2 a) ?_)))) (fun h1 => Ev.step (fun _ => spec_LongNotes.j0.eq_2 ..) (Ev.pos rfl (Ev.some ?_))))
  · rw [if_neg]
    rintro ⟨_, h⟩
    rw [h] at h2
    cases h2
  · rw [if_pos]
    refine ⟨h1, ?_⟩
    cases h : frameB a with
    | true => rfl
    | false => rw [h] at h2; exact absurd rfl h2
  · rw [if_neg (fun h => h1 h.1)]
theorem LongNotes_i (l : List NI) (hl : Sized l) (hl2 : l.length ≤ 4398046511104) (a : Int) : Ev (fun k => impl_LongNotes.f k l a) (longR l a) := by
  unfold impl_LongNotes.f longR
  refine Ev.bind (IsTier_ l hl) (Ev.have (isFrame_ a) (Ev.ite (fun h => Ev.pos (by omega) (Ev.some ?_)) (fun h => Ev.some ?_)))
  · rw [if_pos h]
  · rw [if_neg h]
theorem FnExactLongNotes : laws_FnExactLongNotes.Pure := by
  intro l a hl _
  obtain ⟨z, hz, _, _⟩ := szNoteS_ l hl 1048576 (by omega) (by omega)
  have ht := toNoteS_ l hl.2
  have hsz := Given.sized hl
  have hl2 : (l.map conv).length ≤ 4398046511104 := by rw [List.length_map]; have := hl.2; omega
  have h1 := LongNotes_s _ hsz hl2 a
  have h2 := LongNotes_i _ hsz hl2 a
  have hr := longR_length (l.map conv) a
  generalize longR (l.map conv) a = r at h1 h2 hr
  obtain ⟨r, q⟩ := r
  have hr2 : r.length ≤ 4398046511104 := Nat.le_trans hr hl2
  have he := eqIntS_ r (by omega)
  have hx := eqNoteS_ _ hsz.1
  have hmx := markNoteS_ (l.map conv) (by omega) 1 (by omega) (by omega)
  have hmr := markIntS_ r (by omega) 1 (by omega) (by omega)
  have hh := heldIntS_ r.length (by omega) 1 (by omega) (by omega)
  refine Ev.rounds (Ev.bind hz (Ev.ite (fun _ => Ev.some rfl) (fun _ => ?_)))
  refine Ev.bind ht (Ev.bind h1 (Ev.bind ht (Ev.bind h2 (Ev.bind he (Ev.pos rfl ?_)))))
  refine Ev.step (fun _ => laws_FnExactLongNotes.j0.eq_2 ..) (Ev.neg (by simp) (Ev.bind ht (Ev.bind hx (Ev.pos rfl (Ev.bind hmx (Ev.neg (by simp; omega) (Ev.bind he (Ev.pos rfl ?_))))))))
  refine Ev.step (fun _ => laws_FnExactLongNotes.j1.eq_2 ..) (Ev.neg (by simp) (Ev.bind hmr (Ev.bind hh (Ev.neg (by omega) (Ev.pos rfl (Ev.bind ht (Ev.bind h2 (Ev.bind he (Ev.pos rfl ?_)))))))))
  exact Ev.step (fun _ => laws_FnExactLongNotes.j2.eq_2 ..) (Ev.neg (by simp) (Ev.bind hh (Ev.neg (by omega) (Ev.pos rfl (Ev.some rfl)))))
end Go.Proofs.Ytphjmmaeolbggaa.Pure
