/- Rows of a call's own, told by the range in which their blocks lie; what a test against nil comes to. No condition. -/
import Derived.Test.YtphjmmaeolbggaaMRead
import Derived.Lib.SliceRun
namespace Go.Proofs.Ytphjmmaeolbggaa.MOwn
open Go.RowKit Go.Proofs.YtphjmmaeolbggaaW.PrintWords Go.Proofs.YtphjmmaeolbggaaW.PrintLast Go.Proofs.YtphjmmaeolbggaaW.PrintMore

theorem eql_nil {P : Program} (t e : TypeId) (a : Option Addr) (n c : Nat) (h : P.underlying t = some (.slice e)) (w : World) : (binOp .eql t (.slice a n c) (.slice none 0 0)).run P w = .ok (.bool a.isNone) w := Lib.run_eql_slice_nil w t e a n c 0 0 h

/-- The world of a call, under a name. -/
theorem named {P : Program} {f : FuncId} {args : Array Value} {W : World} {Q : Ending → World → Prop} (h : ∀ W0, W0 = W → Calls P f args W0 Q) : Calls P f args W Q := h W rfl

section
variable {α : Type} {d : Kd α} {e base lo hi : Nat} {w w1 W : World} {v : Value} {xs ys : List α} {P : Nat → Prop}
def RR (d : Kd α) (e : Nat) (w : World) (base lo hi : Nat) (v : Value) (xs : List α) : Prop := d.R e w base (fun k => lo ≤ k ∧ k < hi) v xs ∧ hi ≤ w.heap.size
def SS (d : Kd α) (e : Nat) (w : World) (base lo hi : Nat) (v : Value) (xs : List α) : Prop := Kd.S d e w base (fun k => lo ≤ k ∧ k < hi) v xs ∧ hi ≤ w.heap.size
theorem RR.new (h : d.R e w1 W.heap.size (fun _ => True) v xs) (hb : base ≤ W.heap.size) : RR d e w1 base W.heap.size w1.heap.size v xs := ⟨Kd.R_mono (Kd.R_lower (Kd.R_bound h) hb) (fun _ hk => ⟨hk.2.1, hk.2.2.1⟩), Nat.le_refl _⟩
theorem SS.new (h : Kd.S d e w1 W.heap.size (fun _ => True) v xs) (hb : base ≤ W.heap.size) : SS d e w1 base W.heap.size w1.heap.size v xs := ⟨Kd.S_mono (Kd.S_lower (Kd.S_bound h) hb) (fun _ hk => ⟨hk.2.1, hk.2.2.1⟩), Nat.le_refl _⟩
theorem RR.at (h : RR d e w base lo hi v xs) (hw : W.heap = w.heap) : RR d e W base lo hi v xs := ⟨Kd.R_step h.1 (fun k _ _ => by rw [hw]), by rw [hw]; exact h.2⟩
theorem SS.at (h : SS d e w base lo hi v xs) (hw : W.heap = w.heap) : SS d e W base lo hi v xs := ⟨Kd.S_step h.1 (fun k _ _ => by rw [hw]), by rw [hw]; exact h.2⟩
theorem RR.below (h : RR d e w base lo hi v xs) (hb : Below w.heap.size w w1) : RR d e w1 base lo hi v xs := ⟨Kd.R_below h.1 hb, Nat.le_trans h.2 hb.size⟩
theorem SS.below (h : SS d e w base lo hi v xs) (hb : Below w.heap.size w w1) : SS d e w1 base lo hi v xs := ⟨Kd.S_below h.1 hb, Nat.le_trans h.2 hb.size⟩
theorem RR.kept (h : RR d e w base lo hi v xs) (hk : Kept w w1 P) (hne : ∀ k, lo ≤ k → k < hi → ¬ P k) : RR d e w1 base lo hi v xs := ⟨Kd.R_kept h.1 hk (fun k hk => hne k hk.1 hk.2), Nat.le_trans h.2 hk.1⟩
theorem SS.kept (h : SS d e w base lo hi v xs) (hk : Kept w w1 P) (hne : ∀ k, lo ≤ k → k < hi → ¬ P k) : SS d e w1 base lo hi v xs := ⟨Kd.S_kept h.1 hk (fun k hk => hne k hk.1 hk.2), Nat.le_trans h.2 hk.1⟩
/-- Behind a call that wrote it. -/
theorem RR.back (hE : d.E = []) (h : RR d e w base lo hi v xs) (hy : d.R e w1 base P v ys) (hs : w.heap.size ≤ w1.heap.size) : RR d e w1 base lo hi v ys := ⟨Kd.R_reok hE hy (fun k he => h.1.1 k he), Nat.le_trans h.2 hs⟩
theorem SS.back (h : SS d e w base lo hi v xs) (hy : Kd.S d e w1 base (fun k => lo ≤ k ∧ k < hi) v ys) (hs : w.heap.size ≤ w1.heap.size) : SS d e w1 base lo hi v ys := ⟨hy, Nat.le_trans h.2 hs⟩
theorem RR.form (h : RR d e w base lo hi v xs) : ∃ A c, v = .slice A xs.length c := Kd.R_slice h.1
theorem SS.form (h : SS d e w base lo hi v xs) : ∃ A c, v = .slice A xs.length c := Kd.S_slice h.1
theorem RR.reads {A : Option Addr} {n c : Nat} (h : RR d e w base lo hi (.slice A n c) xs) : n = xs.length ∧ n ≤ c ∧ d.C w A xs.length xs := Kd.R_reads' h.1
theorem SS.reads {A : Option Addr} {n c : Nat} (h : SS d e w base lo hi (.slice A n c) xs) : n = xs.length ∧ n ≤ c ∧ d.C w A xs.length xs := Kd.S_reads' h.1
end
end Go.Proofs.Ytphjmmaeolbggaa.MOwn
