/- The laws' marks on notes: what is written into a list of notes, and that it is found again. -/
import Derived.Test.YtmllkdgdkagkkaaG0
import Derived.Test.YtmllkdgdkagkkaaG4
import Derived.Test.YtmllkdgdkagkkaaG5
import Derived.Test.YtmllkdgdkagkkaaMNote
import Derived.Test.YtmllkdgdkagkkaaMText
namespace Go.Proofs.Ytmllkdgdkagkkaa.MMarkN
open Go.RowKit Go.Proofs.Ytmllkdgdkagkkaa.G Go.Proofs.YtmllkdgdkagkkaaW.PrintWords Go.Proofs.YtmllkdgdkagkkaaW.PrintLast Go.Proofs.Ytmllkdgdkagkkaa.MPure Go.Proofs.Ytmllkdgdkagkkaa.MNote Go.Proofs.Ytmllkdgdkagkkaa.MText

noncomputable def mkN (n : Int) (i : Nat) : NI := ⟨n + 3 * i, n + 3 * i + 1, mt (n + 3 * i + 2)⟩
noncomputable def marksN (n : Int) (m : Nat) : List NI := (List.range m).map (mkN n)
theorem marksN_length (n : Int) (m : Nat) : (marksN n m).length = m := by simp [marksN]
theorem marksN_get (n : Int) (m i : Nat) (h : i < m) : (marksN n m)[i]'(by rw [marksN_length]; exact h) = mkN n i := by simp [marksN]
theorem rd_set (xs : List NI) (i : Nat) (v : NI) (h : i < xs.length) : rd_T63 (xs.set i v) (i : Int) = v := by
  show (xs.set i v).getD i z63 = v
  rw [List.getD_eq_getElem?_getD, List.getElem?_set_self h]
  rfl
theorem markNoteS_ (l : List NI) (hl : l.length ≤ 140737488351232) (n : Int) (h0 : 0 ≤ n) (h1 : n ≤ 1152921504606846976) : Ev (fun k => laws_markNoteS.f k l n) (n + 3 * l.length, marksN n l.length) := by
  have key : ∀ d i : Nat, i + d = l.length → Ev (fun k => laws_markNoteS.l0 k ((marksN n l.length).take i ++ l.drop i) (n + 3 * i) (i : Int)) (n + 3 * l.length, marksN n l.length) := by
    intro d
    induction d with
    | zero =>
      intro i hi
      have hlen := fill_length (xs := marksN n l.length) (ys := l) (by rw [marksN_length]) i
      rw [marksN_length] at hlen
      refine Ev.step (fun _ => laws_markNoteS.l0.eq_2 ..) (Ev.neg (by omega) (Ev.some ?_))
      rw [fill_all (by rw [marksN_length]) (by rw [marksN_length]; omega)]
      obtain rfl : i = l.length := by omega
      rfl
    | succ d ih =>
      intro i hi
      have hlen := fill_length (xs := marksN n l.length) (ys := l) (by rw [marksN_length]) i
      rw [marksN_length] at hlen
      have h := ih (i + 1) (by omega)
      have e1 : wrap64 (n + 3 * (i : Int) + 1) = n + 3 * i + 1 := wrap_in (by omega) (by omega)
      have e2 : wrap64 (n + 3 * (i : Int) + 1 + 1) = n + 3 * i + 2 := by rw [wrap_in (by omega) (by omega)]; omega
      have e3 : wrap64 (n + 3 * (i : Int) + 2 + 1) = n + 3 * ((i + 1 : Nat) : Int) := by rw [wrap_in (by omega) (by omega)]; omega
      refine Ev.step (fun _ => laws_markNoteS.l0.eq_2 ..) (Ev.pos (by omega) (Ev.pos (by omega) ?_))
      generalize hx : (marksN n l.length).take i ++ l.drop i = x at hlen ⊢
      have hix : i < x.length := by omega
      rw [e1, e2, e3, wrap_succ (by omega)]
      refine Ev.have rfl (Ev.have rfl (Ev.bind (markText_ _ (by omega) (by omega)) ?_))
      have ei : ((i : Int)).toNat = i := rfl
      rw [ei, rd_set _ i _ hix]
      simp only [List.set_set]
      rw [rd_set _ i _ hix, ← hx]
      have hs : ((marksN n l.length).take i ++ l.drop i).set i (mkN n i) = (marksN n l.length).take (i + 1) ++ l.drop (i + 1) := by
        rw [← marksN_get n l.length i (by omega)]
        exact set_fill (by rw [marksN_length]) (by rw [marksN_length]; omega)
      rw [← hs] at h
      exact h
  have h := key l.length 0 (by omega)
  unfold laws_markNoteS.f
  simpa using h
theorem heldNoteS_ (m : Nat) (hl : m ≤ 140737488351232) (n : Int) (h0 : 0 ≤ n) (h1 : n ≤ 1152921504606846976) : Ev (fun k => laws_heldNoteS.f k (marksN n m) n) (n + 3 * m) := by
  have key : ∀ d i : Nat, i + d = m → Ev (fun k => laws_heldNoteS.l0 k (marksN n m) (n + 3 * i) (i : Int)) (n + 3 * m) := by
    intro d
    induction d with
    | zero =>
      intro i hi
      obtain rfl : i = m := by omega
      exact Ev.step (fun _ => laws_heldNoteS.l0.eq_2 ..) (Ev.neg (by rw [marksN_length]; omega) (Ev.some rfl))
    | succ d ih =>
      intro i hi
      have h := ih (i + 1) (by omega)
      have e1 : wrap64 (n + 3 * (i : Int) + 1) = n + 3 * i + 1 := wrap_in (by omega) (by omega)
      have e2 : wrap64 (n + 3 * (i : Int) + 1 + 1) = n + 3 * i + 2 := by rw [wrap_in (by omega) (by omega)]; omega
      have e3 : wrap64 (n + 3 * (i : Int) + 2 + 1) = n + 3 * ((i + 1 : Nat) : Int) := by rw [wrap_in (by omega) (by omega)]; omega
      have er : rd_T63 (marksN n m) (i : Int) = mkN n i := by
        show (marksN n m).getD i z63 = _
        rw [List.getD_eq_getElem?_getD, List.getElem?_eq_getElem (by rw [marksN_length]; omega), marksN_get n m i (by omega)]
        rfl
      refine Ev.step (fun _ => laws_heldNoteS.l0.eq_2 ..) (Ev.pos (by rw [marksN_length]; omega) (Ev.pos (by omega) ?_))
      rw [e1, e2, e3, wrap_succ (by omega), er]
      exact Ev.pos rfl (Ev.pos rfl (Ev.bind (markText_ _ (by omega) (by omega)) (Ev.pos rfl h)))
  have h := key m 0 (by omega)
  unfold laws_heldNoteS.f
  simpa using h
end Go.Proofs.Ytmllkdgdkagkkaa.MMarkN
