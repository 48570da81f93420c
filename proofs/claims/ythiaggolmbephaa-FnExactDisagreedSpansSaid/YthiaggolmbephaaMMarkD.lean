/- The laws' marks on spans: what is written into a list of spans, and that it is found again. -/
import Derived.Test.YthiaggolmbephaaG0
import Derived.Test.YthiaggolmbephaaG31
import Derived.Test.YthiaggolmbephaaG32
import Derived.Test.YthiaggolmbephaaMPure
namespace Go.Proofs.Ythiaggolmbephaa.MMarkD
open Go.RowKit Go.Proofs.Ythiaggolmbephaa.G Go.Proofs.YthiaggolmbephaaW.PrintWords Go.Proofs.YthiaggolmbephaaW.PrintLast Go.Proofs.Ythiaggolmbephaa.MPure

abbrev DI := S96
def mkD (n : Int) (i : Nat) : DI := ⟨n + 2 * i, n + 2 * i + 1⟩
def marksD (n : Int) (m : Nat) : List DI := (List.range m).map (mkD n)
theorem marksD_length (n : Int) (m : Nat) : (marksD n m).length = m := by simp [marksD]
theorem marksD_get (n : Int) (m i : Nat) (h : i < m) : (marksD n m)[i]'(by rw [marksD_length]; exact h) = mkD n i := by simp [marksD]
theorem rd_setD (xs : List DI) (i : Nat) (v : DI) (h : i < xs.length) : rd_T96 (xs.set i v) (i : Int) = v := by
  show (xs.set i v).getD i z96 = v
  rw [List.getD_eq_getElem?_getD, List.getElem?_set_self h]
  rfl
theorem eqSpan_ (a : DI) : laws_eqSpan.f a.f0 a.f1 a.f0 a.f1 = some true := by
  unfold laws_eqSpan.f
  rw [if_pos rfl, if_pos rfl]
theorem eqSpanS_ (l : List DI) (hl : l.length ≤ 140737488351232) : Ev (fun k => laws_eqSpanS.f k l l) true := by
  unfold laws_eqSpanS.f
  refine Ev.pos rfl ?_
  have h := loop_all0 (L := fun k i => laws_eqSpanS.l0 k l l i) l.length (fun _ => true) true ?_ ?_ ?_
  · exact Ev.eq h (by simp)
  · exact Ev.step (fun _ => laws_eqSpanS.l0.eq_2 ..) (Ev.neg (by omega) (Ev.some rfl))
  · intro i hi _ r hr
    refine Ev.step (fun _ => laws_eqSpanS.l0.eq_2 ..) (Ev.pos (by omega) (Ev.pos (by omega) (Ev.pos (by omega) (Ev.have (eqSpan_ _) (Ev.pos rfl ?_)))))
    rw [wrap_succ (by omega)]
    exact hr
  · intro i _ h
    cases h
theorem markSpanS_ (l : List DI) (hl : l.length ≤ 140737488351232) (n : Int) (h0 : 0 ≤ n) (h1 : n ≤ 1152921504606846976) : Ev (fun k => laws_markSpanS.f k l n) (n + 2 * l.length, marksD n l.length) := by
  have key : ∀ d i : Nat, i + d = l.length → Ev (fun k => laws_markSpanS.l0 k ((marksD n l.length).take i ++ l.drop i) (n + 2 * i) (i : Int)) (n + 2 * l.length, marksD n l.length) := by
    intro d
    induction d with
    | zero =>
      intro i hi
      have hlen := fill_length (xs := marksD n l.length) (ys := l) (by rw [marksD_length]) i
      rw [marksD_length] at hlen
      refine Ev.step (fun _ => laws_markSpanS.l0.eq_2 ..) (Ev.neg (by omega) (Ev.some ?_))
      rw [fill_all (by rw [marksD_length]) (by rw [marksD_length]; omega)]
      obtain rfl : i = l.length := by omega
      rfl
    | succ d ih =>
      intro i hi
      have hlen := fill_length (xs := marksD n l.length) (ys := l) (by rw [marksD_length]) i
      rw [marksD_length] at hlen
      have h := ih (i + 1) (by omega)
      have e1 : wrap64 (n + 2 * (i : Int) + 1) = n + 2 * i + 1 := wrap_in (by omega) (by omega)
      have e3 : wrap64 (n + 2 * (i : Int) + 1 + 1) = n + 2 * ((i + 1 : Nat) : Int) := by rw [wrap_in (by omega) (by omega)]; omega
      refine Ev.step (fun _ => laws_markSpanS.l0.eq_2 ..) (Ev.pos (by omega) (Ev.pos (by omega) ?_))
      generalize hx : (marksD n l.length).take i ++ l.drop i = x at hlen ⊢
      have hix : i < x.length := by omega
      rw [e1, e3, wrap_succ (by omega)]
      refine Ev.have rfl ?_
      have ei : ((i : Int)).toNat = i := rfl
      rw [ei, rd_setD _ i _ hix]
      simp only [List.set_set]
      rw [← hx]
      have hs : ((marksD n l.length).take i ++ l.drop i).set i (mkD n i) = (marksD n l.length).take (i + 1) ++ l.drop (i + 1) := by
        rw [← marksD_get n l.length i (by omega)]
        exact set_fill (by rw [marksD_length]) (by rw [marksD_length]; omega)
      rw [← hs] at h
      exact h
  have h := key l.length 0 (by omega)
  unfold laws_markSpanS.f
  simpa using h
theorem heldSpanS_ (m : Nat) (hl : m ≤ 140737488351232) (n : Int) (h0 : 0 ≤ n) (h1 : n ≤ 1152921504606846976) : Ev (fun k => laws_heldSpanS.f k (marksD n m) n) (n + 2 * m) := by
  have key : ∀ d i : Nat, i + d = m → Ev (fun k => laws_heldSpanS.l0 k (marksD n m) (n + 2 * i) (i : Int)) (n + 2 * m) := by
    intro d
    induction d with
    | zero =>
      intro i hi
      obtain rfl : i = m := by omega
      exact Ev.step (fun _ => laws_heldSpanS.l0.eq_2 ..) (Ev.neg (by rw [marksD_length]; omega) (Ev.some rfl))
    | succ d ih =>
      intro i hi
      have h := ih (i + 1) (by omega)
      have e1 : wrap64 (n + 2 * (i : Int) + 1) = n + 2 * i + 1 := wrap_in (by omega) (by omega)
      have e3 : wrap64 (n + 2 * (i : Int) + 1 + 1) = n + 2 * ((i + 1 : Nat) : Int) := by rw [wrap_in (by omega) (by omega)]; omega
      have er : rd_T96 (marksD n m) (i : Int) = mkD n i := by
        show (marksD n m).getD i z96 = _
        rw [List.getD_eq_getElem?_getD, List.getElem?_eq_getElem (by rw [marksD_length]; omega), marksD_get n m i (by omega)]
        rfl
      refine Ev.step (fun _ => laws_heldSpanS.l0.eq_2 ..) (Ev.pos (by rw [marksD_length]; omega) (Ev.pos (by omega) ?_))
      rw [e1, e3, wrap_succ (by omega), er]
      exact Ev.pos rfl (Ev.pos rfl h)
  have h := key m 0 (by omega)
  unfold laws_heldSpanS.f
  simpa using h
end Go.Proofs.Ythiaggolmbephaa.MMarkD
