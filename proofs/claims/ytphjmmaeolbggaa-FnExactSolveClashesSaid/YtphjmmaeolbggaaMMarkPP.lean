/- The laws' marks on persons: what is written into a list of persons, and that it is found again. -/
import Derived.Test.YtphjmmaeolbggaaG0
import Derived.Test.YtphjmmaeolbggaaG9
import Derived.Test.YtphjmmaeolbggaaG15
import Derived.Test.YtphjmmaeolbggaaMPerson
import Derived.Test.YtphjmmaeolbggaaMText
namespace Go.Proofs.Ytphjmmaeolbggaa.MMarkPP
open Go.RowKit Go.Proofs.Ytphjmmaeolbggaa.G Go.Proofs.YtphjmmaeolbggaaW.PrintWords Go.Proofs.YtphjmmaeolbggaaW.PrintLast Go.Proofs.Ytphjmmaeolbggaa.MPure Go.Proofs.Ytphjmmaeolbggaa.MPerson Go.Proofs.Ytphjmmaeolbggaa.MText

noncomputable def mkP (n : Int) (i : Nat) : PI := ⟨mt (n + 4 * i), n + 4 * i + 1, n + 4 * i + 2, n + 4 * i + 3⟩
noncomputable def marksP (n : Int) (m : Nat) : List PI := (List.range m).map (mkP n)
theorem marksP_length (n : Int) (m : Nat) : (marksP n m).length = m := by simp [marksP]
theorem marksP_get (n : Int) (m i : Nat) (h : i < m) : (marksP n m)[i]'(by rw [marksP_length]; exact h) = mkP n i := by simp [marksP]
theorem rd_setP (xs : List PI) (i : Nat) (v : PI) (h : i < xs.length) : rd_T69 (xs.set i v) (i : Int) = v := by
  show (xs.set i v).getD i z69 = v
  rw [List.getD_eq_getElem?_getD, List.getElem?_set_self h]
  rfl
theorem markPersonS_ (l : List PI) (hl : l.length ≤ 140737488351232) (n : Int) (h0 : 0 ≤ n) (h1 : n ≤ 1152921504606846976) : Ev (fun k => laws_markPersonS.f k l n) (n + 4 * l.length, marksP n l.length) := by
  have key : ∀ d i : Nat, i + d = l.length → Ev (fun k => laws_markPersonS.l0 k ((marksP n l.length).take i ++ l.drop i) (n + 4 * i) (i : Int)) (n + 4 * l.length, marksP n l.length) := by
    intro d
    induction d with
    | zero =>
      intro i hi
      have hlen := fill_length (xs := marksP n l.length) (ys := l) (by rw [marksP_length]) i
      rw [marksP_length] at hlen
      refine Ev.step (fun _ => laws_markPersonS.l0.eq_2 ..) (Ev.neg (by omega) (Ev.some ?_))
      rw [fill_all (by rw [marksP_length]) (by rw [marksP_length]; omega)]
      obtain rfl : i = l.length := by omega
      rfl
    | succ d ih =>
      intro i hi
      have hlen := fill_length (xs := marksP n l.length) (ys := l) (by rw [marksP_length]) i
      rw [marksP_length] at hlen
      have h := ih (i + 1) (by omega)
      have e1 : wrap64 (n + 4 * (i : Int) + 1) = n + 4 * i + 1 := wrap_in (by omega) (by omega)
      have e2 : wrap64 (n + 4 * (i : Int) + 1 + 1) = n + 4 * i + 2 := by rw [wrap_in (by omega) (by omega)]; omega
      have e3 : wrap64 (n + 4 * (i : Int) + 2 + 1) = n + 4 * i + 3 := by rw [wrap_in (by omega) (by omega)]; omega
      have e4 : wrap64 (n + 4 * (i : Int) + 3 + 1) = n + 4 * ((i + 1 : Nat) : Int) := by rw [wrap_in (by omega) (by omega)]; omega
      refine Ev.step (fun _ => laws_markPersonS.l0.eq_2 ..) (Ev.pos (by omega) (Ev.bind (markText_ _ (by omega) (by omega)) (Ev.pos (by omega) ?_)))
      generalize hx : (marksP n l.length).take i ++ l.drop i = x at hlen ⊢
      have hix : i < x.length := by omega
      rw [e1, e2, e3, e4, wrap_succ (by omega)]
      refine Ev.have rfl (Ev.have rfl (Ev.have rfl ?_))
      have ei : ((i : Int)).toNat = i := rfl
      rw [ei, rd_setP _ i _ hix]
      simp only [List.set_set]
      rw [rd_setP _ i _ hix]
      rw [rd_setP _ i _ hix, ← hx]
      have hs : ((marksP n l.length).take i ++ l.drop i).set i (mkP n i) = (marksP n l.length).take (i + 1) ++ l.drop (i + 1) := by
        rw [← marksP_get n l.length i (by omega)]
        exact set_fill (by rw [marksP_length]) (by rw [marksP_length]; omega)
      rw [← hs] at h
      exact h
  have h := key l.length 0 (by omega)
  unfold laws_markPersonS.f
  simpa using h
theorem heldPersonS_ (m : Nat) (hl : m ≤ 140737488351232) (n : Int) (h0 : 0 ≤ n) (h1 : n ≤ 1152921504606846976) : Ev (fun k => laws_heldPersonS.f k (marksP n m) n) (n + 4 * m) := by
  have key : ∀ d i : Nat, i + d = m → Ev (fun k => laws_heldPersonS.l0 k (marksP n m) (n + 4 * i) (i : Int)) (n + 4 * m) := by
    intro d
    induction d with
    | zero =>
      intro i hi
      obtain rfl : i = m := by omega
      exact Ev.step (fun _ => laws_heldPersonS.l0.eq_2 ..) (Ev.neg (by rw [marksP_length]; omega) (Ev.some rfl))
    | succ d ih =>
      intro i hi
      have h := ih (i + 1) (by omega)
      have e1 : wrap64 (n + 4 * (i : Int) + 1) = n + 4 * i + 1 := wrap_in (by omega) (by omega)
      have e2 : wrap64 (n + 4 * (i : Int) + 1 + 1) = n + 4 * i + 2 := by rw [wrap_in (by omega) (by omega)]; omega
      have e3 : wrap64 (n + 4 * (i : Int) + 2 + 1) = n + 4 * i + 3 := by rw [wrap_in (by omega) (by omega)]; omega
      have e4 : wrap64 (n + 4 * (i : Int) + 3 + 1) = n + 4 * ((i + 1 : Nat) : Int) := by rw [wrap_in (by omega) (by omega)]; omega
      have er : rd_T69 (marksP n m) (i : Int) = mkP n i := by
        show (marksP n m).getD i z69 = _
        rw [List.getD_eq_getElem?_getD, List.getElem?_eq_getElem (by rw [marksP_length]; omega), marksP_get n m i (by omega)]
        rfl
      refine Ev.step (fun _ => laws_heldPersonS.l0.eq_2 ..) (Ev.pos (by rw [marksP_length]; omega) (Ev.pos (by omega) (Ev.bind (markText_ _ (by omega) (by omega)) ?_)))
      rw [e1, e2, e3, e4, wrap_succ (by omega), er]
      exact Ev.pos rfl (Ev.pos rfl (Ev.pos rfl (Ev.pos rfl h)))
  have h := key m 0 (by omega)
  unfold laws_heldPersonS.f
  simpa using h
end Go.Proofs.Ytphjmmaeolbggaa.MMarkPP
