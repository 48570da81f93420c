/- The laws' marks on whole numbers: what is written into a list of numbers, and that it is found again. -/
import Derived.Test.YtphjmmaeolbggaaG8
import Derived.Test.YtphjmmaeolbggaaMPure
namespace Go.Proofs.Ytphjmmaeolbggaa.MMarkI
open Go.RowKit Go.Proofs.Ytphjmmaeolbggaa.G Go.Proofs.YtphjmmaeolbggaaW.PrintWords Go.Proofs.YtphjmmaeolbggaaW.PrintLast Go.Proofs.Ytphjmmaeolbggaa.MPure

def marksI (n : Int) (m : Nat) : List Int := (List.range m).map (fun i : Nat => n + (i : Int))
theorem marksI_length (n : Int) (m : Nat) : (marksI n m).length = m := by simp [marksI]
theorem marksI_get (n : Int) (m i : Nat) (h : i < m) : (marksI n m)[i]'(by rw [marksI_length]; exact h) = n + i := by simp [marksI]
theorem eqIntS_ (l : List Int) (hl : l.length ≤ 140737488351232) : Ev (fun k => laws_eqIntS.f k l l) true := by
  unfold laws_eqIntS.f
  refine Ev.pos rfl ?_
  have h := loop_all0 (L := fun k i => laws_eqIntS.l0 k l l i) l.length (fun _ => true) true ?_ ?_ ?_
  · exact Ev.eq h (by simp)
  · exact Ev.step (fun _ => laws_eqIntS.l0.eq_2 ..) (Ev.neg (by omega) (Ev.some rfl))
  · intro i hi _ r hr
    refine Ev.step (fun _ => laws_eqIntS.l0.eq_2 ..) (Ev.pos (by omega) (Ev.pos (by omega) (Ev.pos (by omega) (Ev.pos rfl ?_))))
    rw [wrap_succ (by omega)]
    exact hr
  · intro i _ h
    cases h
theorem markIntS_ (l : List Int) (hl : l.length ≤ 140737488351232) (n : Int) (h0 : 0 ≤ n) (h1 : n ≤ 1152921504606846976) : Ev (fun k => laws_markIntS.f k l n) (n + l.length, marksI n l.length) := by
  have key : ∀ d i : Nat, i + d = l.length → Ev (fun k => laws_markIntS.l0 k ((marksI n l.length).take i ++ l.drop i) (n + i) (i : Int)) (n + l.length, marksI n l.length) := by
    intro d
    induction d with
    | zero =>
      intro i hi
      have hlen := fill_length (xs := marksI n l.length) (ys := l) (by rw [marksI_length]) i
      rw [marksI_length] at hlen
      refine Ev.step (fun _ => laws_markIntS.l0.eq_2 ..) (Ev.neg (by omega) (Ev.some ?_))
      rw [fill_all (by rw [marksI_length]) (by rw [marksI_length]; omega)]
      obtain rfl : i = l.length := by omega
      rfl
    | succ d ih =>
      intro i hi
      have hlen := fill_length (xs := marksI n l.length) (ys := l) (by rw [marksI_length]) i
      rw [marksI_length] at hlen
      have h := ih (i + 1) (by omega)
      have e1 : wrap64 (n + (i : Int) + 1) = n + ((i + 1 : Nat) : Int) := by rw [wrap_in (by omega) (by omega)]; omega
      have ei : ((i : Int)).toNat = i := rfl
      refine Ev.step (fun _ => laws_markIntS.l0.eq_2 ..) (Ev.pos (by omega) (Ev.pos (by omega) ?_))
      rw [e1, wrap_succ (by omega), ei]
      have hs : ((marksI n l.length).take i ++ l.drop i).set i (n + i) = (marksI n l.length).take (i + 1) ++ l.drop (i + 1) := by
        rw [← marksI_get n l.length i (by omega)]
        exact set_fill (by rw [marksI_length]) (by rw [marksI_length]; omega)
      rw [hs]
      exact h
  have h := key l.length 0 (by omega)
  unfold laws_markIntS.f
  simpa using h
theorem heldIntS_ (m : Nat) (hl : m ≤ 140737488351232) (n : Int) (h0 : 0 ≤ n) (h1 : n ≤ 1152921504606846976) : Ev (fun k => laws_heldIntS.f k (marksI n m) n) (n + m) := by
  have key : ∀ d i : Nat, i + d = m → Ev (fun k => laws_heldIntS.l0 k (marksI n m) (n + i) (i : Int)) (n + m) := by
    intro d
    induction d with
    | zero =>
      intro i hi
      obtain rfl : i = m := by omega
      exact Ev.step (fun _ => laws_heldIntS.l0.eq_2 ..) (Ev.neg (by rw [marksI_length]; omega) (Ev.some rfl))
    | succ d ih =>
      intro i hi
      have h := ih (i + 1) (by omega)
      have e1 : wrap64 (n + (i : Int) + 1) = n + ((i + 1 : Nat) : Int) := by rw [wrap_in (by omega) (by omega)]; omega
      have er : rd (marksI n m) (i : Int) = n + i := by
        show (marksI n m).getD i 0 = _
        rw [List.getD_eq_getElem?_getD, List.getElem?_eq_getElem (by rw [marksI_length]; omega), marksI_get n m i (by omega)]
        rfl
      refine Ev.step (fun _ => laws_heldIntS.l0.eq_2 ..) (Ev.pos (by rw [marksI_length]; omega) (Ev.pos (by omega) ?_))
      rw [e1, wrap_succ (by omega), er]
      exact Ev.pos rfl h
  have h := key m 0 (by omega)
  unfold laws_heldIntS.f
  simpa using h
end Go.Proofs.Ytphjmmaeolbggaa.MMarkI
