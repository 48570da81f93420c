/- The laws' marks on the persons that were handed over: that they come to an end (what they write is read by nobody). -/
import Derived.Test.YtmllkdgdkagkkaaG0
import Derived.Test.YtmllkdgdkagkkaaG15
import Derived.Test.YtmllkdgdkagkkaaMPerson
import Derived.Test.YtmllkdgdkagkkaaMText
namespace Go.Proofs.Ytmllkdgdkagkkaa.MMarkPA
open Go.RowKit Go.Proofs.Ytmllkdgdkagkkaa.G Go.Proofs.YtmllkdgdkagkkaaW.PrintWords Go.Proofs.YtmllkdgdkagkkaaW.PrintLast Go.Proofs.Ytmllkdgdkagkkaa.MPure Go.Proofs.Ytmllkdgdkagkkaa.MPerson Go.Proofs.Ytmllkdgdkagkkaa.MText

theorem markPersonS_any (l : List PI) (hl : l.length ≤ 140737488351232) (n : Int) (h0 : 0 ≤ n) (h1 : n ≤ 1152921504606846976) : ∃ r : List PI, Ev (fun k => laws_markPersonS.f k l n) (n + 4 * l.length, r) := by
  have key : ∀ d i : Nat, i + d = l.length → ∀ x : List PI, x.length = l.length → ∃ r : List PI, Ev (fun k => laws_markPersonS.l0 k x (n + 4 * i) (i : Int)) (n + 4 * l.length, r) := by
    intro d
    induction d with
    | zero =>
      intro i hi x hx
      obtain rfl : i = l.length := by omega
      exact ⟨x, Ev.step (fun _ => laws_markPersonS.l0.eq_2 ..) (Ev.neg (by omega) (Ev.some rfl))⟩
    | succ d ih =>
      intro i hi x hx
      have e1 : wrap64 (n + 4 * (i : Int) + 1) = n + 4 * i + 1 := wrap_in (by omega) (by omega)
      have e2 : wrap64 (n + 4 * (i : Int) + 1 + 1) = n + 4 * i + 2 := by rw [wrap_in (by omega) (by omega)]; omega
      have e3 : wrap64 (n + 4 * (i : Int) + 2 + 1) = n + 4 * i + 3 := by rw [wrap_in (by omega) (by omega)]; omega
      have e4 : wrap64 (n + 4 * (i : Int) + 3 + 1) = n + 4 * ((i + 1 : Nat) : Int) := by rw [wrap_in (by omega) (by omega)]; omega
      obtain ⟨s1, hs1⟩ : ∃ s1 : List PI, s1 = x.set (i : Int).toNat ⟨mt (n + 4 * i), (rd_T76 x (i : Int)).f1, (rd_T76 x (i : Int)).f2, (rd_T76 x (i : Int)).f3⟩ := ⟨_, rfl⟩
      obtain ⟨s2, hs2⟩ : ∃ s2 : List PI, s2 = s1.set (i : Int).toNat ⟨(rd_T76 s1 (i : Int)).f0, n + 4 * i + 1, (rd_T76 s1 (i : Int)).f2, (rd_T76 s1 (i : Int)).f3⟩ := ⟨_, rfl⟩
      obtain ⟨s3, hs3⟩ : ∃ s3 : List PI, s3 = s2.set (i : Int).toNat ⟨(rd_T76 s2 (i : Int)).f0, (rd_T76 s2 (i : Int)).f1, n + 4 * i + 2, (rd_T76 s2 (i : Int)).f3⟩ := ⟨_, rfl⟩
      obtain ⟨s4, hs4⟩ : ∃ s4 : List PI, s4 = s3.set (i : Int).toNat ⟨(rd_T76 s3 (i : Int)).f0, (rd_T76 s3 (i : Int)).f1, (rd_T76 s3 (i : Int)).f2, n + 4 * i + 3⟩ := ⟨_, rfl⟩
      obtain ⟨r, h⟩ := ih (i + 1) (by omega) s4 (by rw [hs4, List.length_set, hs3, List.length_set, hs2, List.length_set, hs1, List.length_set]; exact hx)
      refine ⟨r, Ev.step (fun _ => laws_markPersonS.l0.eq_2 ..) (Ev.pos (by omega) (Ev.bind (markText_ _ (by omega) (by omega)) (Ev.pos (by omega) ?_)))⟩
      rw [e1, e2, e3, e4, wrap_succ (by omega)]
      exact Ev.have (congrArg some hs1.symm) (Ev.have (congrArg some hs2.symm) (Ev.have (congrArg some hs3.symm) (hs4 ▸ h)))
  have h := key l.length 0 (by omega) l rfl
  unfold laws_markPersonS.f
  simpa using h
end Go.Proofs.Ytmllkdgdkagkkaa.MMarkPA
