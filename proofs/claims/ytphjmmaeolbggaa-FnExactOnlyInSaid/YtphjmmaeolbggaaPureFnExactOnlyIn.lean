/- OnlyIn of the program returns what that of the reference returns, for all lists of notes, and in memory of its own; no condition beyond what every row's reading gives. -/
import Derived.Test.YtphjmmaeolbggaaG29
import Derived.Test.YtphjmmaeolbggaaG52
import Derived.Test.YtphjmmaeolbggaaMPart
import Derived.Test.YtphjmmaeolbggaaMMarkN
namespace Go.Proofs.Ytphjmmaeolbggaa.Pure
open Go.RowKit Go.Proofs.Ytphjmmaeolbggaa.G Go.Proofs.YtphjmmaeolbggaaW.PrintWords Go.Proofs.YtphjmmaeolbggaaW.PrintLast Go.Proofs.Ytphjmmaeolbggaa.MPure Go.Proofs.Ytphjmmaeolbggaa.MWord Go.Proofs.Ytphjmmaeolbggaa.MNote Go.Proofs.Ytphjmmaeolbggaa.MMarkN Go.Proofs.Ytphjmmaeolbggaa.MPart

def parR (l m : List NI) : List NI × Bool := if (tierB l && tierB m) = true then (l.filter (fun x => hasB m x == false), true) else ([], false)
theorem par_s (l m : List NI) (hl : Sized l) (hm : Sized m) : Ev (fun k => spec_OnlyIn.f k l m) (parR l m) := by
  unfold spec_OnlyIn.f parR
  refine Ev.bind (meBoth_ l m hl hm) (Ev.ite (fun h => ?_) (fun h => Ev.some (by rw [if_neg h])))
  rw [if_pos h]
  rw [Bool.and_eq_true] at h
  have h1 := tier_length h.1
  have h2 := tier_length h.2
  exact Ev.bind (mePart_ l m (by omega) (by omega) false) (Ev.some rfl)
theorem par_i (l m : List NI) (hl : Sized l) (hm : Sized m) : Ev (fun k => impl_OnlyIn.f k l m) (parR l m) := by
  unfold impl_OnlyIn.f parR
  refine Ev.bind (IsTier_ l hl) (Ev.ite (fun h => ?_) (fun h => Ev.some (by simp [h])))
  refine Ev.bind (IsTier_ m hm) (Ev.ite (fun h2 => ?_) (fun h2 => Ev.some (by simp [h2])))
  have h1 := tier_length h
  refine Ev.pos (by omega) (Ev.some ?_)
  rw [h, h2]
  have e : (fun x => !impl_OnlyIn.p m x) = (fun x => hasB m x == false) := funext fun x => by
    show (!(hasB m x)) = _
    cases hasB m x <;> rfl
  rw [e]
  rfl
theorem parR_length (l m : List NI) : (parR l m).1.length ≤ l.length := by
  unfold parR
  split
  · exact List.length_filter_le _ _
  · exact Nat.zero_le _
theorem FnExactOnlyIn : laws_FnExactOnlyIn.Pure := by
  intro l m hl hm
  obtain ⟨z0, ⟨K0, hz0⟩, _, hz0b⟩ := szNoteS_ l hl 1048576 (by omega) (by omega)
  by_cases hneg : z0 < 0
  · exact ⟨K0, z0, hz0 _ (Nat.le_refl _), fun h => absurd h (by omega)⟩
  obtain ⟨z1, ⟨K1, hz1⟩, _, _⟩ := szNoteS_ m hm z0 (by omega) (by omega)
  obtain ⟨K2, ht0⟩ := toNoteS_ l hl.2
  obtain ⟨K3, ht1⟩ := toNoteS_ m hm.2
  have hs0 := Given.sized hl
  have hs1 := Given.sized hm
  have hl2 : (l.map conv).length ≤ 4398046511104 := by rw [List.length_map]; have := hl.2; omega
  have hm2 : (m.map conv).length ≤ 4398046511104 := by rw [List.length_map]; have := hm.2; omega
  obtain ⟨K4, g3⟩ := par_s _ _ hs0 hs1
  obtain ⟨K5, g4⟩ := par_i _ _ hs0 hs1
  have hr := parR_length (l.map conv) (m.map conv)
  generalize parR (l.map conv) (m.map conv) = r at g3 g4 hr
  obtain ⟨r, q⟩ := r
  have hr2 : r.length ≤ 4398046511104 := Nat.le_trans hr hl2
  obtain ⟨K6, he⟩ := eqNoteS_ r (by omega)
  obtain ⟨K7, hx⟩ := eqNoteS_ _ hs0.1
  obtain ⟨K8, hy⟩ := eqNoteS_ _ hs1.1
  obtain ⟨K9, hmx⟩ := markNoteS_ (l.map conv) (by omega) 1 (by omega) (by omega)
  obtain ⟨K10, hmy⟩ := markNoteS_ (m.map conv) (by omega) (1 + 3 * ((l.map conv).length : Int)) (by omega) (by omega)
  obtain ⟨K11, hmr⟩ := markNoteS_ r (by omega) 1 (by omega) (by omega)
  obtain ⟨K12, hh⟩ := heldNoteS_ r.length (by omega) 1 (by omega) (by omega)
  refine ⟨K0 + K1 + K2 + K3 + K4 + K5 + K6 + K7 + K8 + K9 + K10 + K11 + K12, z0, hz0 _ (by omega), fun _ => ⟨z1, hz1 _ (by omega), fun _ => ?_⟩⟩
  exact ⟨_, _, r, q, _, _, _, _, _, _, ht0 _ (by omega), ht1 _ (by omega), g3 _ (by omega), g4 _ (by omega), he _ (by omega), hx _ (by omega), hy _ (by omega), hmx _ (by omega), hmy _ (by omega), by omega, hmr _ (by omega), hh _ (by omega), by omega⟩
end Go.Proofs.Ytphjmmaeolbggaa.Pure
