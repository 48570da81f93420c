/- The least place at which nobody has a letter: the reference's search comes to what the program's comes to. -/
import Derived.Test.YtphjmmaeolbggaaG0
import Derived.Test.YtphjmmaeolbggaaG18
import Derived.Test.YtphjmmaeolbggaaG19
import Derived.Test.YtphjmmaeolbggaaMPerson
namespace Go.Proofs.Ytphjmmaeolbggaa.MFree
open Go.RowKit Go.Proofs.Ytphjmmaeolbggaa.G Go.Proofs.YtphjmmaeolbggaaW.PrintWords Go.Proofs.YtphjmmaeolbggaaW.PrintLast Go.Proofs.Ytphjmmaeolbggaa.MPure Go.Proofs.Ytphjmmaeolbggaa.MWord Go.Proofs.Ytphjmmaeolbggaa.MPerson

theorem inner (l : List PI) (hl : l.length ≤ 140737488351232) (a b r : Int) (hn : Ev (fun k => spec_naFree.l0 k l a (wrap64 (b + 1))) r) : ∀ d i : Nat, i + d = l.length → ∀ fr : Bool, Ev (fun k => spec_naFree.l1 k l a b fr l (l.length : Int) (i : Int)) (if (fr && !(l.drop i).any (impl_freePlace.p a b)) = true then b else r) := by
  intro d
  induction d with
  | zero =>
    intro i hi fr
    rw [List.drop_eq_nil_of_le (by omega)]
    refine Ev.step (fun _ => spec_naFree.l1.eq_2 ..) (Ev.neg (by omega) (Ev.ite (fun h => Ev.some ?_) (fun h => Ev.eq hn ?_)))
    · rw [h]; rfl
    · rw [Bool.eq_false_iff.2 h]; rfl
  | succ d ih =>
    intro i hi fr
    have hrd : rd_T69 l (i : Int) = l[i]'(by omega) := by
      show l.getD i z69 = _
      rw [List.getD_eq_getElem?_getD, List.getElem?_eq_getElem (by omega)]
      rfl
    have h := ih (i + 1) (by omega)
    rw [← wrap_succ (by omega)] at h
    rw [List.drop_eq_getElem_cons (show i < l.length by omega), List.any_cons, ← hrd]
    refine Ev.step (fun _ => spec_naFree.l1.eq_2 ..) (Ev.pos (by omega) (Ev.pos (by omega) (Ev.pos (by omega) (Ev.ite (fun h1 => Ev.ite (fun h2 => Ev.eq (h _) ?_) (fun h2 => Ev.eq (h _) ?_)) (fun h1 => Ev.eq (h _) ?_)))))
    · subst h1
      have : impl_freePlace.p a b (rd_T69 l (i : Int)) = decide ((rd_T69 l (i : Int)).f2 = b) := by
        unfold impl_freePlace.p
        rw [decide_eq_decide]
        exact ⟨fun h => h.2, fun h => ⟨h2, h⟩⟩
      rw [this]
      by_cases e : (rd_T69 l (i : Int)).f2 = b
      · simp [e]
      · simp [e]
    · subst h1
      have : impl_freePlace.p a b (rd_T69 l (i : Int)) = false := by
        unfold impl_freePlace.p
        rw [decide_eq_false_iff_not]
        exact fun h => h2 h.1
      rw [this]
      rfl
    · rw [Bool.eq_false_iff.2 h1]
      rfl
theorem outer (l : List PI) (hl : l.length ≤ 140737488351232) (a : Int) : ∀ d : Nat, d ≤ 10 → Ev (fun k => spec_naFree.l0 k l a (10 - (d : Int))) (impl_freePlace.from l a d) := by
  intro d
  induction d with
  | zero => exact fun _ => Ev.step (fun _ => spec_naFree.l0.eq_2 ..) (Ev.neg (by omega) (Ev.some rfl))
  | succ d ih =>
    intro hd
    have h := ih (by omega)
    have e : (10 : Int) - ((d + 1 : Nat) : Int) = 9 - (d : Int) := by omega
    rw [e]
    have e2 : wrap64 (9 - (d : Int) + 1) = 10 - (d : Int) := by rw [wrap_in (by omega) (by omega)]; omega
    rw [← e2] at h
    refine Ev.step (fun _ => spec_naFree.l0.eq_2 ..) (Ev.pos (by omega) (Ev.eq (inner l hl a _ _ h l.length 0 (by omega) true) ?_))
    rw [impl_freePlace.from, List.drop_zero]
    cases l.any (impl_freePlace.p a (9 - (d : Int))) <;> rfl
theorem naFree_ (l : List PI) (hl : l.length ≤ 140737488351232) (a : Int) : Ev (fun k => spec_naFree.f k l a) (impl_freePlace.from l a 10) := outer l hl a 10 (Nat.le_refl _)
end Go.Proofs.Ytphjmmaeolbggaa.MFree
