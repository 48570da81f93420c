/- FewestChanges of the program returns what that of the reference returns, for all lists of persons, and in memory of its own; no condition beyond what every row's reading gives. -/
import Derived.Test.YtphjmmaeolbggaaG17
import Derived.Test.YtphjmmaeolbggaaG47
import Derived.Test.YtphjmmaeolbggaaG48
import Derived.Test.YtphjmmaeolbggaaMChanges
import Derived.Test.YtphjmmaeolbggaaMMarkPP
import Derived.Test.YtphjmmaeolbggaaMMarkI
namespace Go.Proofs.Ytphjmmaeolbggaa.Pure
open Go.RowKit Go.Proofs.Ytphjmmaeolbggaa.G Go.Proofs.YtphjmmaeolbggaaW.PrintWords Go.Proofs.YtphjmmaeolbggaaW.PrintLast Go.Proofs.Ytphjmmaeolbggaa.MPure Go.Proofs.Ytphjmmaeolbggaa.MWord Go.Proofs.Ytphjmmaeolbggaa.MPerson Go.Proofs.Ytphjmmaeolbggaa.MMarkPP Go.Proofs.Ytphjmmaeolbggaa.MMarkI Go.Proofs.Ytphjmmaeolbggaa.MChanges

def fewR (l : List PI) : List Int × Bool := if peopleB l = true then (impl_changes.upto l l.length, true) else ([], false)
theorem Fewest_s (l : List PI) (hl : SizedP l) : Ev (fun k => spec_FewestChanges.f k l) (fewR l) := by
  unfold spec_FewestChanges.f fewR
  exact Ev.bind (naGood_ l hl) (Ev.ite (fun h => Ev.bind (naChanges_ l (by have := people_length h; omega)) (Ev.some (by rw [if_pos h]))) (fun h => Ev.some (by rw [if_neg h])))
theorem Fewest_i (l : List PI) (hl : SizedP l) : Ev (fun k => impl_FewestChanges.f k l) (fewR l) := by
  unfold impl_FewestChanges.f fewR
  refine Ev.bind (ArePeople_ l hl) (Ev.ite (fun h => ?_) (fun h => Ev.some (by rw [if_neg h])))
  have hc : impl_changes.f l = some (impl_changes.upto l l.length) := by
    unfold impl_changes.f
    rw [if_pos (by have := people_length h; omega)]
  exact Ev.have hc (Ev.some (by rw [if_pos h]))
theorem fewR_length (l : List PI) : (fewR l).1.length ≤ l.length := by
  unfold fewR
  split
  · exact impl_changes.upto_length l l.length
  · exact Nat.zero_le _
theorem FnExactFewestChanges : laws_FnExactFewestChanges.Pure := by
  intro l hl
  obtain ⟨z0, ⟨K0, hz0⟩, _, _⟩ := szPersonS_ l hl 1048576 (by omega) (by omega)
  obtain ⟨K2, ht0⟩ := toPersonS_ l hl.2
  have hs0 := GivenP.sized hl
  have hl2 : (l.map convP).length ≤ 4398046511104 := by rw [List.length_map]; have := hl.2; omega
  obtain ⟨K4, g3⟩ := Fewest_s _ hs0
  obtain ⟨K5, g4⟩ := Fewest_i _ hs0
  have hr := fewR_length (l.map convP)
  generalize fewR (l.map convP) = r at g3 g4 hr
  obtain ⟨r, q⟩ := r
  have hr2 : r.length ≤ 4398046511104 := Nat.le_trans hr hl2
  obtain ⟨K6, he⟩ := eqIntS_ r (by omega)
  obtain ⟨K7, hx⟩ := eqPersonS_ _ hs0.1
  obtain ⟨K8, hmx⟩ := markPersonS_ (l.map convP) (by omega) 1 (by omega) (by omega)
  obtain ⟨K9, hmr⟩ := markIntS_ r (by omega) 1 (by omega) (by omega)
  obtain ⟨K10, hh⟩ := heldIntS_ r.length (by omega) 1 (by omega) (by omega)
  refine ⟨K0 + K2 + K4 + K5 + K6 + K7 + K8 + K9 + K10, z0, hz0 _ (by omega), fun _ => ?_⟩
  exact ⟨_, r, q, _, _, _, _, ht0 _ (by omega), g3 _ (by omega), g4 _ (by omega), he _ (by omega), hx _ (by omega), hmx _ (by omega), by omega, hmr _ (by omega), hh _ (by omega), by omega⟩
end Go.Proofs.Ytphjmmaeolbggaa.Pure
