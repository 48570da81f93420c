/- NewName of the program returns what that of the reference returns, for all lists of persons, names, letters and years; no condition beyond what every row's reading gives. -/
import Derived.Test.YthiaggolmbephaaG41
import Derived.Test.YthiaggolmbephaaG42
import Derived.Test.YthiaggolmbephaaG44
import Derived.Test.YthiaggolmbephaaMFree
namespace Go.Proofs.Ythiaggolmbephaa.Pure
open Go.RowKit Go.Proofs.Ythiaggolmbephaa.G Go.Proofs.YthiaggolmbephaaW.PrintWords Go.Proofs.YthiaggolmbephaaW.PrintLast Go.Proofs.Ythiaggolmbephaa.MPure Go.Proofs.Ythiaggolmbephaa.MWord Go.Proofs.Ythiaggolmbephaa.MPerson Go.Proofs.Ythiaggolmbephaa.MFree

theorem NewName_both (l : List PI) (hl : SizedP l) (s : ByteArray) (hs : s.size ≤ 140737488351232) (a y : Int) : ∃ r : ByteArray × Int × Int × Int × Bool, Ev (fun k => spec_NewName.f k l s a y) r ∧ Ev (fun k => impl_NewName.f k l s a y) r := by
  unfold spec_NewName.f impl_NewName.f
  have hf := naFree_ l hl.1 a
  have hi : impl_freePlace.f l a = some (impl_freePlace.from l a 10) := rfl
  generalize impl_freePlace.from l a 10 = z at hf hi
  have hp := IsPerson_ s a 0 y hs
  have hfail : ∀ q : Bool, q = true → Ev (fun k => impl_NewName.j0 k l a q s a 0 y) ((⟨#[]⟩ : ByteArray), 0, 0, 0, false) := fun q hq => Ev.step (fun _ => impl_NewName.j0.eq_2 ..) (Ev.pos hq (Ev.some rfl))
  by_cases h1 : peopleB l = true
  · by_cases h2 : wordB smallB s = true
    · by_cases h3 : letterB a = true
      · by_cases h4 : yearB y = true
        · have hq : personB s a 0 y = true := by unfold personB; rw [h2, h3, h4]; decide
          rw [hq] at hp
          by_cases h5 : z < 0
          · exact ⟨((⟨#[]⟩ : ByteArray), 0, 0, 0, false), Ev.bind (naGood_ l hl) (Ev.pos h1 (Ev.bind (naName_ s hs) (Ev.pos h2 (Ev.have (naLetter_ a) (Ev.pos h3 (Ev.have (naYear_ y) (Ev.pos h4 (Ev.bind hf (Ev.pos h5 (Ev.some rfl)))))))))), Ev.bind (ArePeople_ l hl) (Ev.pos h1 (Ev.bind hp (Ev.step (fun _ => impl_NewName.j0.eq_2 ..) (Ev.neg (by decide) (Ev.have hi (Ev.pos h5 (Ev.some rfl)))))))⟩
          · exact ⟨(s, a, z, y, true), Ev.bind (naGood_ l hl) (Ev.pos h1 (Ev.bind (naName_ s hs) (Ev.pos h2 (Ev.have (naLetter_ a) (Ev.pos h3 (Ev.have (naYear_ y) (Ev.pos h4 (Ev.bind hf (Ev.neg h5 (Ev.bind hf (Ev.some rfl))))))))))), Ev.bind (ArePeople_ l hl) (Ev.pos h1 (Ev.bind hp (Ev.step (fun _ => impl_NewName.j0.eq_2 ..) (Ev.neg (by decide) (Ev.have hi (Ev.neg h5 (Ev.some rfl)))))))⟩
        · exact ⟨_, Ev.bind (naGood_ l hl) (Ev.pos h1 (Ev.bind (naName_ s hs) (Ev.pos h2 (Ev.have (naLetter_ a) (Ev.pos h3 (Ev.have (naYear_ y) (Ev.neg h4 (Ev.some rfl)))))))), Ev.bind (ArePeople_ l hl) (Ev.pos h1 (Ev.bind hp (hfail _ (by unfold personB; simp [h4]))))⟩
      · exact ⟨_, Ev.bind (naGood_ l hl) (Ev.pos h1 (Ev.bind (naName_ s hs) (Ev.pos h2 (Ev.have (naLetter_ a) (Ev.neg h3 (Ev.some rfl)))))), Ev.bind (ArePeople_ l hl) (Ev.pos h1 (Ev.bind hp (hfail _ (by unfold personB; simp [h3]))))⟩
    · exact ⟨_, Ev.bind (naGood_ l hl) (Ev.pos h1 (Ev.bind (naName_ s hs) (Ev.neg h2 (Ev.some rfl)))), Ev.bind (ArePeople_ l hl) (Ev.pos h1 (Ev.bind hp (hfail _ (by unfold personB; simp [h2]))))⟩
  · exact ⟨_, Ev.bind (naGood_ l hl) (Ev.neg h1 (Ev.some rfl)), Ev.bind (ArePeople_ l hl) (Ev.neg h1 (hfail true rfl))⟩
theorem FnExactNewName : laws_FnExactNewName.Pure := by
  intro l s a y hl hs _ _
  obtain ⟨z, hz, _, _⟩ := szPersonS_ l hl 1048576 (by omega) (by omega)
  have ht := toPersonS_ l hl.2
  obtain ⟨⟨r0, r1, r2, r3, r4⟩, h1, h2⟩ := NewName_both _ (GivenP.sized hl) s hs a y
  have he : laws_eqPerson.f r0 r1 r2 r3 r0 r1 r2 r3 = some true := eqPerson_ ⟨r0, r1, r2, r3⟩
  refine Ev.rounds (Ev.ite (fun _ => Ev.some rfl) (fun _ => Ev.bind hz (Ev.ite (fun _ => Ev.some rfl) (fun _ => ?_))))
  refine Ev.bind ht (Ev.bind h1 (Ev.bind ht (Ev.bind h2 (Ev.have he (Ev.pos rfl ?_)))))
  exact Ev.step (fun _ => laws_FnExactNewName.j0.eq_2 ..) (Ev.neg (by simp) (Ev.bind ht (Ev.bind (eqPersonS_ _ (GivenP.sized hl).1) (Ev.pos rfl (Ev.some rfl)))))
end Go.Proofs.Ythiaggolmbephaa.Pure
