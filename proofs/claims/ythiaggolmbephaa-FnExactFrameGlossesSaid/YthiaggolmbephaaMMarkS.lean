/- The laws' marks on texts: what is written into a list of texts, and that it is found again. -/
import Derived.Test.YthiaggolmbephaaG21
import Derived.Test.YthiaggolmbephaaG22
import Derived.Test.YthiaggolmbephaaMText
namespace Go.Proofs.Ythiaggolmbephaa.MMarkS
open Go.RowKit Go.Proofs.Ythiaggolmbephaa.G Go.Proofs.YthiaggolmbephaaW.PrintWords Go.Proofs.YthiaggolmbephaaW.PrintLast Go.Proofs.Ythiaggolmbephaa.MPure Go.Proofs.Ythiaggolmbephaa.MText

noncomputable def marksS (n : Int) (m : Nat) : List ByteArray := (List.range m).map (fun i : Nat => mt (n + (i : Int)))
theorem marksS_length (n : Int) (m : Nat) : (marksS n m).length = m := by simp [marksS]
theorem marksS_get (n : Int) (m i : Nat) (h : i < m) : (marksS n m)[i]'(by rw [marksS_length]; exact h) = mt (n + i) := by simp [marksS]
theorem eqStringS_ (l : List ByteArray) (hl : l.length ≤ 140737488351232) : Ev (fun k => laws_eqStringS.f k l l) true := by
  unfold laws_eqStringS.f
  refine Ev.pos rfl ?_
  have h := loop_all0 (L := fun k i => laws_eqStringS.l0 k l l i) l.length (fun _ => true) true ?_ ?_ ?_
  · exact Ev.eq h (by simp)
  · exact Ev.step (fun _ => laws_eqStringS.l0.eq_2 ..) (Ev.neg (by omega) (Ev.some rfl))
  · intro i hi _ r hr
    refine Ev.step (fun _ => laws_eqStringS.l0.eq_2 ..) (Ev.pos (by omega) (Ev.pos (by omega) (Ev.pos (by omega) (Ev.pos rfl ?_))))
    rw [wrap_succ (by omega)]
    exact hr
  · intro i _ h
    cases h
theorem markStringS_ (l : List ByteArray) (hl : l.length ≤ 140737488351232) (n : Int) (h0 : 0 ≤ n) (h1 : n ≤ 1152921504606846976) : Ev (fun k => laws_markStringS.f k l n) (n + l.length, marksS n l.length) := by
  have key : ∀ d i : Nat, i + d = l.length → Ev (fun k => laws_markStringS.l0 k ((marksS n l.length).take i ++ l.drop i) (n + i) (i : Int)) (n + l.length, marksS n l.length) := by
    intro d
    induction d with
    | zero =>
      intro i hi
      have hlen := fill_length (xs := marksS n l.length) (ys := l) (by rw [marksS_length]) i
      rw [marksS_length] at hlen
      refine Ev.step (fun _ => laws_markStringS.l0.eq_2 ..) (Ev.neg (by omega) (Ev.some ?_))
      rw [fill_all (by rw [marksS_length]) (by rw [marksS_length]; omega)]
      obtain rfl : i = l.length := by omega
      rfl
    | succ d ih =>
      intro i hi
      have hlen := fill_length (xs := marksS n l.length) (ys := l) (by rw [marksS_length]) i
      rw [marksS_length] at hlen
      have h := ih (i + 1) (by omega)
      have e1 : wrap64 (n + (i : Int) + 1) = n + ((i + 1 : Nat) : Int) := by rw [wrap_in (by omega) (by omega)]; omega
      have ei : ((i : Int)).toNat = i := rfl
      refine Ev.step (fun _ => laws_markStringS.l0.eq_2 ..) (Ev.pos (by omega) (Ev.bind (markText_ _ (by omega) (by omega)) (Ev.pos (by omega) ?_)))
      rw [e1, wrap_succ (by omega), ei]
      have hs : ((marksS n l.length).take i ++ l.drop i).set i (mt (n + i)) = (marksS n l.length).take (i + 1) ++ l.drop (i + 1) := by
        rw [← marksS_get n l.length i (by omega)]
        exact set_fill (by rw [marksS_length]) (by rw [marksS_length]; omega)
      rw [hs]
      exact h
  have h := key l.length 0 (by omega)
  unfold laws_markStringS.f
  simpa using h
theorem heldStringS_ (m : Nat) (hl : m ≤ 140737488351232) (n : Int) (h0 : 0 ≤ n) (h1 : n ≤ 1152921504606846976) : Ev (fun k => laws_heldStringS.f k (marksS n m) n) (n + m) := by
  have key : ∀ d i : Nat, i + d = m → Ev (fun k => laws_heldStringS.l0 k (marksS n m) (n + i) (i : Int)) (n + m) := by
    intro d
    induction d with
    | zero =>
      intro i hi
      obtain rfl : i = m := by omega
      exact Ev.step (fun _ => laws_heldStringS.l0.eq_2 ..) (Ev.neg (by rw [marksS_length]; omega) (Ev.some rfl))
    | succ d ih =>
      intro i hi
      have h := ih (i + 1) (by omega)
      have e1 : wrap64 (n + (i : Int) + 1) = n + ((i + 1 : Nat) : Int) := by rw [wrap_in (by omega) (by omega)]; omega
      have er : rdOf ByteArray.empty (marksS n m) (i : Int) = mt (n + i) := by
        show (marksS n m).getD i ByteArray.empty = _
        rw [List.getD_eq_getElem?_getD, List.getElem?_eq_getElem (by rw [marksS_length]; omega), marksS_get n m i (by omega)]
        rfl
      refine Ev.step (fun _ => laws_heldStringS.l0.eq_2 ..) (Ev.pos (by rw [marksS_length]; omega) (Ev.pos (by omega) (Ev.bind (markText_ _ (by omega) (by omega)) ?_)))
      rw [e1, wrap_succ (by omega), er]
      exact Ev.pos rfl h
  have h := key m 0 (by omega)
  unfold laws_heldStringS.f
  simpa using h
end Go.Proofs.Ythiaggolmbephaa.MMarkS
