/- A cell that is written over and over: that it is there is told without going through what was written. -/
import Derived.Test.YtphjmmaeolbggaaMRead
namespace Go.Proofs.Ytphjmmaeolbggaa.MAlive
open Go.RowKit Go.Proofs.YtphjmmaeolbggaaW.PrintWords Go.Proofs.YtphjmmaeolbggaaW.PrintLast Go.Proofs.YtphjmmaeolbggaaW.PrintMore

def alive (w : World) (a : Addr) : Bool := (w.cell? a).isSome
theorem alive_of {w : World} {a : Addr} {u : Value} (h : w.cell? a = some u) : alive w a = true := by
  unfold alive
  rw [h]
  rfl
theorem alive_set (w : World) (a b : Addr) (v : Value) : alive (w.setCell b v) a = alive w a := by
  unfold alive
  by_cases e : b = a
  · subst e
    cases h : w.cell? b with
    | some u => rw [World.cell?_setCell_same _ _ _ h]; rfl
    | none =>
      simp only [World.cell?] at h
      simp only [World.setCell, World.cell?, Array.getElem?_modify, ↓reduceIte]
      cases hh : w.heap[b.block]? with
      | none => simp
      | some x => cases x <;> simp_all
  · rw [World.cell?_setCell_other _ _ _ _ e]
theorem alive_drewN (w : World) (n : Nat) (a : Addr) : alive (w.drewN n) a = alive w a := rfl
theorem alive_drew (w : World) (a : Addr) : alive w.drew a = alive w a := rfl
theorem cell_set_alive (w : World) (a : Addr) (v : Value) (h : alive w a = true) : (w.setCell a v).cell? a = some v := by
  obtain ⟨u, hu⟩ := Option.isSome_iff_exists.1 h
  exact World.cell?_setCell_same w a v hu
end Go.Proofs.Ytphjmmaeolbggaa.MAlive
