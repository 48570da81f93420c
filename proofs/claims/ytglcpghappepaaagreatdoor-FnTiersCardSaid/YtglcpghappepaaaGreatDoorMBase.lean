/- What the printed parts use beside the words: readings, rows of one's own, phrases of tactics. No condition. -/
import Derived.Test.YtglcpghappepaaaGreatDoorWAll
import Derived.SizedLaws
import Derived.Deep.Slices
import Derived.Lib.SmallJoins
import Derived.Deep.Strs
import Derived.Lib.SliceRun
import Derived.WalkKit
section
/- What comes in as an argument, read as a value of the print's kinds: whole numbers, bools, strings, structs of two to four one-cell fields, slices of any of these. No condition beyond what a row's reading gives. -/
namespace Go.Proofs.YtglcpghappepaaaGreatDoorW.PrintWords
open Go.ChangeShapes Go.WideShapes Go.RowKit Go.Joins Go.Deep

/-- What reads as data at type t reads as a value of the kind k of which G holds. -/
def Rd {α : Type} (P : Program) (t : TypeId) (k : Kd α) (G : α → Prop) : Prop :=
  ∀ (H : Type) (enc : TypeId × Value → H) (w : World) (base : Nat) (spare : Nat → Bool) (held : Bool) (fuel : Nat) (cs : List Value) (x : DataW H × List MemPlace),
    DataW.trod enc P w base spare held fuel t cs = some x → (∀ n, n ∈ x.1.weights P t → n ≤ reachBytes) → ∃ a, k.K w a cs ∧ G a

theorem rd_int {P : Program} {t : TypeId} (k : IntKind) (ht : P.underlying t = some (.int k)) : Rd P t (Kd.int k) (fun n => (Lit.int k n).wf = true) := by
  intro H enc w base spare held fuel cs x h _
  obtain ⟨n, rfl, rfl, hw⟩ := DataW.trod_int ht h
  exact ⟨n, rfl, hw⟩
/-- A list out of its elements. -/
theorem list_of {α : Type} {p : Nat → α → Prop} : ∀ n, (∀ i, i < n → ∃ a, p i a) → ∃ xs : List α, xs.length = n ∧ ∀ i a, xs[i]? = some a → p i a
  | 0, _ => ⟨[], rfl, fun i a h => by simp at h⟩
  | n + 1, h => by
    obtain ⟨xs, hl, hx⟩ := list_of n (fun i hi => h i (by omega))
    obtain ⟨a, ha⟩ := h n (by omega)
    refine ⟨xs ++ [a], by simp [hl], fun i b hb => ?_⟩
    rcases Nat.lt_trichotomy i n with hi | hi | hi
    · rw [List.getElem?_append_left (by omega)] at hb
      exact hx i b hb
    · subst hi
      rw [List.getElem?_append_right (by omega), hl] at hb
      simp at hb
      subst hb
      exact ha
    · rw [List.getElem?_append_right (by omega)] at hb
      rw [List.getElem?_eq_none (by simp; omega)] at hb
      cases hb

theorem weights_all {H : Type} {P : Program} {e : TypeId} : ∀ {ds : List (DataW H)} {d : DataW H}, d ∈ ds → ∀ n, n ∈ d.weights P e → n ∈ DataW.weightsAll P e ds
  | d0 :: ds, d, hd, n, hn => by
    simp only [DataW.weightsAll, List.mem_append]
    rcases List.mem_cons.1 hd with rfl | hd
    · exact .inl hn
    · exact .inr (weights_all hd n hn)

theorem rd_slice {α : Type} {P : Program} {t e : TypeId} {d : Kd α} {G : α → Prop} (B : Nat) (ht : P.underlying t = some (.slice e)) (hc : P.cellsOf e = d.sz) (hB : P.bytesOf e = B) (he : Rd P e d G) :
    Rd P t (Kd.slice e d) (fun l => (∀ a, a ∈ l → G a) ∧ l.length * B ≤ 140737488351232) := by
  intro H enc w base spare held fuel cs x h hz
  rcases Go.Deep.open_slice ht h with ⟨rfl, rfl⟩ | ⟨a, len, cap, m, n, D, Pl, rfl, hb, hl, hm, hmm, rfl, hx⟩
  · exact ⟨[], ⟨none, 0, rfl, Nat.le_refl _, rfl, by simp, fun hp => absurd hp (by simp)⟩, by simp, by simp⟩
  · have hlm : len ≤ m := by rw [hmm]; split <;> omega
    have hel : ∀ i, i < len → ∃ v : α, (∃ c, c.length = d.sz ∧ d.K w v c ∧ ∀ j u, c[j]? = some u → w.cell? (a.add (i * d.sz + j)) = some u) ∧ G v := by
      intro i hi
      obtain ⟨cs', h1, h2⟩ := hx i (by omega)
      obtain ⟨v, hK, hG⟩ := he H enc w base spare held n cs' (D i, Pl i) h2 (fun q hq => hz q (by
        simp only [DataW.weights, ht, List.mem_cons, List.mem_append]
        exact .inr (.inl (weights_all (List.mem_map.2 ⟨i, List.mem_range.2 hi, rfl⟩) q hq))))
      obtain ⟨_, hlen, hcell⟩ := World.cells?_some h1
      refine ⟨v, ⟨cs', by rw [hlen, hc], hK, fun j u hu => ?_⟩, hG⟩
      have hj : j < cs'.length := (List.getElem?_eq_some_iff.1 hu).1
      rw [← hu, ← hcell j (by omega), hc, Go.Deep.add_add]
    obtain ⟨xs, hxl, hxp⟩ := list_of len hel
    have hbig : len ≤ 9223372036854775807 := by simp only [maxLen] at hm; omega
    refine ⟨xs, ⟨some a, cap, by rw [hxl], by omega, rfl, by omega, fun _ => ⟨a, rfl, fun j p hj => (hxp j p hj).1⟩⟩, fun v hv => ?_, ?_⟩
    · obtain ⟨i, hi⟩ := List.mem_iff_getElem?.1 hv
      exact (hxp i v hi).2
    · have := hz ((((List.range len).map D).length + ((List.range (m - len)).map fun j => D (len + j)).length) * B) (by
        simp only [DataW.weights, ht, hB, List.mem_cons]
        exact .inl trivial)
      have h2 : len * B ≤ (((List.range len).map D).length + ((List.range (m - len)).map fun j => D (len + j)).length) * B := Nat.mul_le_mul_right _ (by simp)
      rw [hxl]
      exact Nat.le_trans h2 this

/-- An argument's weights are among the row's. -/
theorem arg_sized {H : Type} {P : Program} {ts : List TypeId} {ds : List (DataW H)} (hsz : (DataW.weightsEach P ts ds).all (· ≤ reachBytes) = true) {j : Nat} {t : TypeId} {d : DataW H} (ht : ts[j]? = some t) (hd : ds[j]? = some d) : ∀ n, n ∈ d.weights P t → n ≤ reachBytes :=
  fun n hn => by simpa using List.all_eq_true.1 hsz n (DataW.weights_mem_each ht hd n hn)

/-- A slice that came in. -/
theorem open_row {α : Type} {P : Program} {t e : TypeId} {d : Kd α} {G : List α → Prop} (hR : Rd P t (Kd.slice e d) G) {H : Type} {enc : TypeId × Value → H} {w : World} {base : Nat} {spare : Nat → Bool} {held : Bool} {A : Option Addr} {len cap : Nat} {x : DataW H} {ps : List MemPlace}
    (h : DataW.Trod enc P w base spare held t (.slice A len cap) x ps) (hz : ∀ n, n ∈ x.weights P t → n ≤ reachBytes) :
    ∃ l : List α, len = l.length ∧ l.length ≤ cap ∧ d.C w A l.length l ∧ G l := by
  obtain ⟨fuel, hf⟩ := h
  obtain ⟨l, ⟨A', c, he, hl, hC⟩, hG⟩ := hR H enc w base spare held fuel _ _ hf hz
  simp only [Value.cells, List.cons.injEq, Value.slice.injEq, and_true] at he
  obtain ⟨rfl, rfl, rfl⟩ := he
  exact ⟨l, rfl, hl, hC, hG⟩
/-! ### texts held against each other -/
theorem less_total : ∀ a b : List UInt8, (Op.bytesLess a b || a == b) = !(Op.bytesLess b a)
  | [], [] => rfl
  | [], _ :: _ => rfl
  | _ :: _, [] => rfl
  | a :: x, b :: y => by
    have ih := less_total x y
    simp only [Op.bytesLess, List.cons_beq_cons]
    rcases Nat.lt_trichotomy a.toNat b.toNat with h | h | h
    · have h1 : (decide (a < b)) = true := decide_eq_true (UInt8.lt_iff_toNat_lt.2 h)
      have h2 : (decide (b < a)) = false := decide_eq_false (fun q => by have := UInt8.lt_iff_toNat_lt.1 q; omega)
      have h3 : (b == a) = false := beq_eq_false_iff_ne.2 (fun q => by subst q; omega)
      simp [h1, h2, h3]
    · obtain rfl : a = b := UInt8.toNat_inj.1 h
      simp [ih]
    · have h1 : (decide (a < b)) = false := decide_eq_false (fun q => by have := UInt8.lt_iff_toNat_lt.1 q; omega)
      have h2 : (decide (b < a)) = true := decide_eq_true (UInt8.lt_iff_toNat_lt.2 h)
      have h3 : (a == b) = false := beq_eq_false_iff_ne.2 (fun q => by subst q; omega)
      simp [h1, h2, h3]
theorem str_geq (t : TypeId) (a b : ByteArray) : binOp .geq t (.string a) (.string b) = pure (.bool !(Op.bytesLess a.toList b.toList)) := by simp [binOp, Op.stringOp]
theorem str_gtr (t : TypeId) (a b : ByteArray) : binOp .gtr t (.string a) (.string b) = pure (.bool (Op.bytesLess b.toList a.toList)) := by
  have : binOp .gtr t (.string a) (.string b) = pure (.bool !(Op.bytesLess a.toList b.toList || a.toList == b.toList)) := by simp [binOp, Op.stringOp]
  rw [this, less_total, Bool.not_not]
theorem str_leq (t : TypeId) (a b : ByteArray) : binOp .leq t (.string a) (.string b) = pure (.bool !(Op.bytesLess b.toList a.toList)) := by
  have : binOp .leq t (.string a) (.string b) = pure (.bool (Op.bytesLess a.toList b.toList || a.toList == b.toList)) := by simp [binOp, Op.stringOp]
  rw [this, less_total]

/-! ### what calls through function values come to -/
/-- A call of a function that has a body enters it. -/
theorem goes_in {P : Program} {f : FuncId} {fn : Func} {c : Code} (hf : P.funcs[f]? = some fn) (hname : (fn.name == "runtime.NumGoroutine") = false) (hb : fn.body = some c) : ∀ (args : Array Value) (w : World), (callFunc f args).run P w = .ok (.enter f args) w := by
  intro args w
  have h1 : fn.name ≠ "runtime.NumGoroutine" := by simpa using hname
  simp [callFunc, hf, h1, hb, mark]
/-- The first place at which p holds, or -1. -/
def idxOf {α : Type} (p : α → Bool) (l : List α) : Int := match l.findIdx? p with | some i => (i : Int) | none => -1
theorem idxOf_hit {α : Type} {p : α → Bool} {l : List α} (z : α) {i : Nat} (hi : i < l.length) (hp : p (l.getD i z) = true) (hb : ∀ j, j < i → p (l.getD j z) = false) : idxOf p l = (i : Int) := by
  have : l.findIdx? p = some i := by
    rw [List.findIdx?_eq_some_iff_getElem]
    refine ⟨hi, ?_, fun j hj => ?_⟩
    · rw [← hp, List.getD_eq_getElem?_getD, List.getElem?_eq_getElem hi]
      rfl
    · have := hb j hj
      rw [List.getD_eq_getElem?_getD, List.getElem?_eq_getElem (by omega)] at this
      simpa using this
  unfold idxOf
  rw [this]
theorem idxOf_miss {α : Type} {p : α → Bool} {l : List α} (z : α) (hb : ∀ j, j < l.length → p (l.getD j z) = false) : idxOf p l = -1 := by
  have : l.findIdx? p = none := by
    rw [List.findIdx?_eq_none_iff]
    intro x hx
    obtain ⟨j, hj, rfl⟩ := List.mem_iff_getElem.1 hx
    have := hb j hj
    rw [List.getD_eq_getElem?_getD, List.getElem?_eq_getElem hj] at this
    simpa using this
  unfold idxOf
  rw [this]
end Go.Proofs.YtglcpghappepaaaGreatDoorW.PrintWords
end
section
/- A cell that is written over and over: that it is there is told without going through what was written. -/
namespace Go.Proofs.YtglcpghappepaaaGreatDoor.MAlive
open Go.RowKit Go.Proofs.YtglcpghappepaaaGreatDoorW.PrintWords Go.Proofs.YtglcpghappepaaaGreatDoorW.PrintLast Go.Proofs.YtglcpghappepaaaGreatDoorW.PrintMore

def alive (w : World) (a : Addr) : Bool := (w.cell? a).isSome
theorem alive_of {w : World} {a : Addr} {u : Value} (h : w.cell? a = some u) : alive w a = true := by
  unfold alive
  rw [h]
  rfl
theorem alive_set (w : World) (a b : Addr) (v : Value) : alive (w.setCell b v) a = alive w a := by
  unfold alive
  by_cases e : b = a
  · subst e
    cases h : w.cell? b with
    | some u => rw [World.cell?_setCell_same _ _ _ h]; rfl
    | none =>
      simp only [World.cell?] at h
      simp only [World.setCell, World.cell?, Array.getElem?_modify, ↓reduceIte]
      cases hh : w.heap[b.block]? with
      | none => simp
      | some x => cases x <;> simp_all
  · rw [World.cell?_setCell_other _ _ _ _ e]
theorem alive_drewN (w : World) (n : Nat) (a : Addr) : alive (w.drewN n) a = alive w a := rfl
theorem alive_drew (w : World) (a : Addr) : alive w.drew a = alive w a := rfl
theorem cell_set_alive (w : World) (a : Addr) (v : Value) (h : alive w a = true) : (w.setCell a v).cell? a = some v := by
  obtain ⟨u, hu⟩ := Option.isSome_iff_exists.1 h
  exact World.cell?_setCell_same w a v hu
end Go.Proofs.YtglcpghappepaaaGreatDoor.MAlive
end
section
/- Calls through function values, and what searches through predicates come to; no condition. -/
namespace Go.Proofs.YtglcpghappepaaaGreatDoor.MFun
open Go.RowKit Go.Proofs.YtglcpghappepaaaGreatDoorW.PrintWords Go.Proofs.YtglcpghappepaaaGreatDoorW.PrintLast Go.Proofs.YtglcpghappepaaaGreatDoorW.PrintMore

section
variable {P : Program} {ops : Array Oper} {Q : Exit → Act → World → Prop}
/-- A call through a function value that is known, in a region that draws its order. -/
theorem goesV_ {oi : Oper} {N : Option Tmp} {a : Act} {w : World} {K : Act → World → Prop} {f : FuncId} {fn : Func} {as : Array Operand} {ts : Array TypeId} {x : Operand} (hf : P.funcs[f]? = some fn) (hname : (fn.name == "runtime.NumGoroutine") = false) (hb : fn.body.isSome = true) (args : Array Value)
    (hw : Region.wanted oi (yielded ops a.tmps) = true) (hN : oi.dst = N) (hop : oi.op = .call { callee := .value x, args := as, argTypes := ts }) (hx : a.eval x = .func (.func f) #[] #[]) (hargs : as.map a.eval = args)
    (h : Calls P f args w fun e w' => ∃ v, e = .returned v ∧ K (a.put N v) w') : if Region.wanted oi (yielded ops a.tmps) = true then Oper.wp P oi a w K Q else K (a.put N undef) w := by
  refine call_ f args hw hN ?_ h
  have he := enters_ hf hname hb args w
  unfold execOp
  simp [hop, resolve, Deferred.ofValue, invoke, hx, hargs, he]
end

/-- The places at which p holds, from i on. -/
def placesFrom {α : Type} (p : α → Bool) : List α → Nat → List Int
  | [], _ => []
  | x :: l, i => if p x then (i : Int) :: placesFrom p l (i + 1) else placesFrom p l (i + 1)
def places {α : Type} (p : α → Bool) (l : List α) : List Int := placesFrom p l 0
end Go.Proofs.YtglcpghappepaaaGreatDoor.MFun
end
section
/- Rows of a call's own, told by the range in which their blocks lie; what a test against nil comes to. No condition. -/
namespace Go.Proofs.YtglcpghappepaaaGreatDoor.MOwn
open Go.RowKit Go.Proofs.YtglcpghappepaaaGreatDoorW.PrintWords Go.Proofs.YtglcpghappepaaaGreatDoorW.PrintLast Go.Proofs.YtglcpghappepaaaGreatDoorW.PrintMore

theorem eql_nil {P : Program} (t e : TypeId) (a : Option Addr) (n c : Nat) (h : P.underlying t = some (.slice e)) (w : World) : (binOp .eql t (.slice a n c) (.slice none 0 0)).run P w = .ok (.bool a.isNone) w := Lib.run_eql_slice_nil w t e a n c 0 0 h

/-- The world of a call, under a name. -/
theorem named {P : Program} {f : FuncId} {args : Array Value} {W : World} {Q : Ending → World → Prop} (h : ∀ W0, W0 = W → Calls P f args W0 Q) : Calls P f args W Q := h W rfl

section
variable {α β : Type} {d : Kd α} {d' : Kd β} {e e' base : Nat} {w w1 W : World} {v : Value} {xs ys : List α} {p p' P : Nat → Prop}
def RR (d : Kd α) (e : Nat) (w : World) (base : Nat) (p : Nat → Prop) (v : Value) (xs : List α) : Prop := d.R e w base p v xs ∧ ∀ k, p k → k < w.heap.size
def SS (d : Kd α) (e : Nat) (w : World) (base : Nat) (p : Nat → Prop) (v : Value) (xs : List α) : Prop := Kd.S d e w base p v xs ∧ ∀ k, p k → k < w.heap.size
theorem RR.new (h : d.R e w1 W.heap.size (fun _ => True) v xs) (hb : base ≤ W.heap.size) : ∃ p, RR d e w1 base p v xs ∧ (∀ k, p k → W.heap.size ≤ k) ∧ ∀ k, p k → ∃ q, q ∈ e :: d.E ∧ ∃ cells, w1.heap[k]? = some (.cells cells q (0, 0)) := ⟨_, ⟨Kd.R_lower (Kd.R_bound h) hb, fun _ hk => hk.2.2.1⟩, fun _ hk => hk.2.1, fun _ hk => hk.2.2.2⟩
theorem SS.new (h : Kd.S d e w1 W.heap.size (fun _ => True) v xs) (hb : base ≤ W.heap.size) : ∃ p, SS d e w1 base p v xs ∧ (∀ k, p k → W.heap.size ≤ k) ∧ ∀ k, p k → ∃ q, q ∈ e :: d.E ∧ ∃ cells, w1.heap[k]? = some (.cells cells q (0, 0)) := ⟨_, ⟨Kd.S_lower (Kd.S_bound h) hb, fun _ hk => hk.2.2.1⟩, fun _ hk => hk.2.1, fun _ hk => hk.2.2.2⟩
/-- Two rows that one call made, of other types. -/
theorem two {L L' : List Nat} (h : ∀ k, p k → ∃ q, q ∈ L ∧ ∃ cells, w.heap[k]? = some (.cells cells q (0, 0))) (h' : ∀ k, p' k → ∃ q, q ∈ L' ∧ ∃ cells, w.heap[k]? = some (.cells cells q (0, 0))) (ht : ∀ q, q ∈ L → q ∉ L') : ∀ k, p k → p' k → False := by
  intro k h1 h2
  obtain ⟨q, hq, _, hc⟩ := h k h1
  obtain ⟨q', hq', _, hc'⟩ := h' k h2
  rw [hc] at hc'
  injection hc' with hc'
  injection hc' with _ hc'
  subst hc'
  exact ht _ hq hq'
theorem RR.at (h : RR d e w base p v xs) (hw : W.heap = w.heap) : RR d e W base p v xs := ⟨Kd.R_step h.1 (fun k _ _ => by rw [hw]), by rw [hw]; exact h.2⟩
theorem SS.at (h : SS d e w base p v xs) (hw : W.heap = w.heap) : SS d e W base p v xs := ⟨Kd.S_step h.1 (fun k _ _ => by rw [hw]), by rw [hw]; exact h.2⟩
theorem RR.below (h : RR d e w base p v xs) (hb : Below w.heap.size w w1) : RR d e w1 base p v xs := ⟨Kd.R_below h.1 hb, fun k hk => Nat.lt_of_lt_of_le (h.2 k hk) hb.size⟩
theorem SS.below (h : SS d e w base p v xs) (hb : Below w.heap.size w w1) : SS d e w1 base p v xs := ⟨Kd.S_below h.1 hb, fun k hk => Nat.lt_of_lt_of_le (h.2 k hk) hb.size⟩
theorem RR.kept (h : RR d e w base p v xs) (hk : Kept w w1 P) (hne : ∀ k, p k → ¬ P k) : RR d e w1 base p v xs := ⟨Kd.R_kept h.1 hk hne, fun k h1 => Nat.lt_of_lt_of_le (h.2 k h1) hk.1⟩
theorem SS.kept (h : SS d e w base p v xs) (hk : Kept w w1 P) (hne : ∀ k, p k → ¬ P k) : SS d e w1 base p v xs := ⟨Kd.S_kept h.1 hk hne, fun k h1 => Nat.lt_of_lt_of_le (h.2 k h1) hk.1⟩
/-- Behind a call that wrote it. -/
theorem RR.back (hE : d.E = []) (h : RR d e w base p v xs) (hy : d.R e w1 base P v ys) (hs : w.heap.size ≤ w1.heap.size) : RR d e w1 base p v ys := ⟨Kd.R_reok hE hy (fun k he => h.1.1 k he), fun k h1 => Nat.lt_of_lt_of_le (h.2 k h1) hs⟩
theorem SS.back (h : SS d e w base p v xs) (hy : Kd.S d e w1 base p v ys) (hs : w.heap.size ≤ w1.heap.size) : SS d e w1 base p v ys := ⟨hy, fun k h1 => Nat.lt_of_lt_of_le (h.2 k h1) hs⟩
theorem RR.form (h : RR d e w base p v xs) : ∃ A c, v = .slice A xs.length c := Kd.R_slice h.1
theorem SS.form (h : SS d e w base p v xs) : ∃ A c, v = .slice A xs.length c := Kd.S_slice h.1
theorem RR.reads {A : Option Addr} {n c : Nat} (h : RR d e w base p (.slice A n c) xs) : n = xs.length ∧ n ≤ c ∧ d.C w A xs.length xs := Kd.R_reads' h.1
theorem SS.reads {A : Option Addr} {n c : Nat} (h : SS d e w base p (.slice A n c) xs) : n = xs.length ∧ n ≤ c ∧ d.C w A xs.length xs := Kd.S_reads' h.1
end
end Go.Proofs.YtglcpghappepaaaGreatDoor.MOwn
end
section
/- Phrases of tactics that the printed parts repeat word by word, each under a name: what they prove is told where they are used. No condition. -/
set_option linter.unusedVariables false
namespace Go.Proofs.YtglcpghappepaaaGreatDoor.G
theorem q1_ {P : Prop} (h : P := by simp) : P := h
theorem q2_ {P : Prop} (h : P := by first | omega | exact Nat.le_refl _) : P := h
theorem q3_ {P : Prop} (h : P := by first | rfl | (simp;done) | (simp [*];done)) : P := h
theorem q4_ {P : Prop} (h : P := by first | (with_reducible assumption) | assumption) : P := h
theorem q5_ {P : Prop} (h : P := by repeat (first | exact Drawn0.refl _ | apply Drawn0.step)) : P := h
theorem q6_ {P : Prop} (h : P := by first | rfl | (simp [errW_none,errW_some] <;> rfl) | (simp [*,errW_none,errW_some] <;> rfl)) : P := h
theorem q7_ {P : Prop} (h : P := by (with_reducible repeat (first | apply Kd.R_alloc | apply Kd.R_drewN | apply Kd.R_drew));exact HO0.out) : P := h
theorem q8_ {P : Prop} (h : P := by (with_reducible repeat (first | apply Kd.R_alloc | apply Kd.R_drewN | apply Kd.R_drew));exact HO_5.out) : P := h
theorem q9_ {P : Prop} (h : P := by (with_reducible repeat (first | apply Kd.R_alloc | apply Kd.R_drewN | apply Kd.R_drew));exact HO_0.out) : P := h
theorem q10_ {P : Prop} (h : P := by (with_reducible repeat (first | apply Kd.S_alloc | apply Kd.S_drewN | apply Kd.S_drew));exact HO_8.out) : P := h
theorem q11_ {P : Prop} (h : P := by (with_reducible repeat (first | apply Kd.R_alloc | apply Kd.R_drewN | apply Kd.R_drew));exact HO103.out) : P := h
theorem q12_ {P : Prop} (h : P := by (with_reducible repeat (first | apply Kd.R_alloc | apply Kd.R_drewN | apply Kd.R_drew));exact HO110.out) : P := h
theorem q13_ {P : Prop} (h : P := by (with_reducible repeat (first | apply Kd.S_alloc | apply Kd.S_drewN | apply Kd.S_drew));exact HO128.out) : P := h
theorem q14_ {P : Prop} (h : P := by (with_reducible repeat (first | apply Kd.S_alloc | apply Kd.S_drewN | apply Kd.S_drew));exact HO132.out) : P := h
theorem q15_ {P : Prop} (h : P := by (with_reducible repeat (first | apply Kd.R_alloc | apply Kd.R_drewN | apply Kd.R_drew));exact HO104.out) : P := h
theorem q16_ {P : Prop} (h : P := by (with_reducible repeat (first | apply Kd.R_alloc | apply Kd.R_drewN | apply Kd.R_drew));exact HO112.out) : P := h
theorem q17_ {P : Prop} (h : P := by (with_reducible repeat (first | refine blk_drewN ?_ _ | refine blk_drew ?_ | refine blk_alloc ?_ _));exact BK101.out) : P := h
theorem q18_ {P : Prop} (h : P := by (with_reducible repeat (first | refine blk_drewN ?_ _ | refine blk_drew ?_ | refine blk_alloc ?_ _));exact BK107.out) : P := h
theorem q19_ {P : Prop} (h : P := by repeat (first | (with_reducible first | exact HK.out | apply Kept.alloc | apply Kept.drewN | apply Kept.drew) | exact HK.out)) : P := h
theorem q20_ {P : Prop} (h : P := by repeat (first | (with_reducible first | exact HB.out | apply below_alloc | apply pw_below_drewN | apply below_drew1) | exact HB.out)) : P := h
theorem q21_ {P : Prop} (h : P := by (try simp only [List.map_toArray,List.map_cons,List.map_nil]);first | done | rfl | (simp only [List.length_drop,List.length_take];rfl)) : P := h
theorem q22_ {P : Prop} (h : P := by first | exact Kd.R_nil _ _ _ _ _ | exact Kd.N_nil _ _ _ _ _ | exact Kd.V_nil _ _ _ _ _ | exact Kd.Q_nil _ _ _ _ _ | exact Kd.S_nil _ _ _ _ _) : P := h
theorem q23_ {P : Prop} (h : P := by repeat (first | (with_reducible first | exact HK.out | apply KeepBut.set_ | apply keep_drewN | apply keep_drew | apply keep_alloc) | exact HK.out)) : P := h
theorem q24_ {P : Prop} (h : P := by repeat (first | (with_reducible first | exact HB.out | apply below_alloc | apply pw_below_drewN | apply below_drew1 | refine below_set ?_ GE102.out) | exact HB.out)) : P := h
theorem q25_ {P : Prop} (h : P := by repeat (first | (with_reducible first | exact HB.out | apply below_alloc | apply pw_below_drewN | apply below_drew1 | refine below_set ?_ GE101.out) | exact HB.out)) : P := h
theorem q26_ {P : Prop} (h : P := by repeat (first | (with_reducible first | exact HB.out | apply below_alloc | apply pw_below_drewN | apply below_drew1 | refine below_set ?_ GE107.out) | exact HB.out)) : P := h
theorem q27_ {P : Prop} (h : P := by repeat (first | (with_reducible first | exact HB.out | apply below_alloc | apply pw_below_drewN | apply below_drew1 | refine below_set ?_ GE106.out) | exact HB.out)) : P := h
theorem q28_ {P : Prop} (h : P := by repeat (first | (with_reducible first | exact HB.out | apply below_alloc | apply pw_below_drewN | apply below_drew1 | refine below_set ?_ GE110.out) | exact HB.out)) : P := h
theorem q29_ {P : Prop} (h : P := by repeat (first | (with_reducible first | exact HI0.out | apply IsS53.alloc | apply IsS53.drewN | apply IsS53.drew | apply IsS53.set_1 | apply IsS53.set_2) | exact HI0.out)) : P := h
theorem q30_ {P : Prop} (h : P := by repeat (first | (with_reducible first | exact HB.out | apply below_alloc | apply pw_below_drewN | apply below_drew1 | refine below_set ?_ (IsS53.ge HI0.out)) | exact HB.out)) : P := h
theorem q31_ {P : Prop} (h : P := by repeat (first | (with_reducible first | exact HI101.out | apply IsS53.alloc | apply IsS53.drewN | apply IsS53.drew | apply IsS53.set_1 | apply IsS53.set_2) | exact HI101.out)) : P := h
theorem q32_ {P : Prop} (h : P := by repeat (first | (with_reducible first | exact HB.out | apply below_alloc | apply pw_below_drewN | apply below_drew1 | refine below_set ?_ (IsS53.ge HI101.out)) | exact HB.out)) : P := h
theorem q33_ {P : Prop} (h : P := by repeat (first | (with_reducible first | exact HK.out | apply KeepBut.set_ | apply keep_drewN | apply keep_drew | apply keep_alloc | refine keep_far ?_ GW118.out _) | exact HK.out)) : P := h
theorem q34_ {P : Prop} (h : P := by repeat (first | (with_reducible first | exact HK.out | apply KeepBut.set_ | apply keep_drewN | apply keep_drew | apply keep_alloc | refine keep_far ?_ GW101.out _) | exact HK.out)) : P := h
theorem q35_ {P : Prop} (h : P := by repeat (first | (with_reducible exact HR170_0.out) | (with_reducible refine Kd.C_alloc ?_ _) | (with_reducible refine Kd.C_drewN ?_ _) | (with_reducible refine Kd.C_drew ?_) | exact HR170_0.out)) : P := h
theorem q36_ {P : Prop} (h : P := by repeat (first | (with_reducible first | exact HB.out | apply below_alloc | apply pw_below_drewN | apply below_drew1 | refine below_set ?_ (IsS53.ge HI0.out) | refine below_set ?_ GE118.out) | exact HB.out)) : P := h
theorem q37_ {P : Prop} (h : P := by repeat (first | (with_reducible first | exact HB.out | apply below_alloc | apply pw_below_drewN | apply below_drew1 | refine below_set ?_ (IsS53.ge HI0.out) | refine below_set ?_ GE101.out) | exact HB.out)) : P := h
theorem q38_ {P : Prop} (h : P := by repeat (first | (with_reducible first | exact HI0.out | apply IsS53.alloc | apply IsS53.drewN | apply IsS53.drew | apply IsS53.set_1 | apply IsS53.set_2 | refine IsS53.far ?_ NB0_118.out _) | exact HI0.out)) : P := h
theorem q39_ {P : Prop} (h : P := by repeat (first | (with_reducible first | exact HI0.out | apply IsS53.alloc | apply IsS53.drewN | apply IsS53.drew | apply IsS53.set_1 | apply IsS53.set_2 | refine IsS53.far ?_ NB0_101.out _) | exact HI0.out)) : P := h
theorem q40_ {P : Prop} (h : P := by repeat (first | (with_reducible first | exact HB.out | apply below_alloc | apply pw_below_drewN | apply below_drew1 | refine below_set ?_ (IsS53.ge HI102.out) | refine below_set ?_ GE101.out) | exact HB.out)) : P := h
theorem q41_ {P : Prop} (h : P := by repeat (first | (with_reducible first | exact HK.out | apply KeepBut.set_ | apply keep_drewN | apply keep_drew | apply keep_alloc | refine keep_far ?_ GW101.out _ | refine keep_far ?_ GW114.out _) | exact HK.out)) : P := h
theorem q42_ {P : Prop} (h : P := by repeat (first | (with_reducible first | exact HI102.out | apply IsS53.alloc | apply IsS53.drewN | apply IsS53.drew | apply IsS53.set_1 | apply IsS53.set_2 | refine IsS53.far ?_ NB102_101.out _) | exact HI102.out)) : P := h
theorem q43_ {P : Prop} (h : P := by repeat (first | (with_reducible first | exact HB.out | apply below_alloc | apply pw_below_drewN | apply below_drew1 | refine below_set ?_ (IsS53.ge HI0.out) | refine below_set ?_ GE101.out | refine below_set ?_ GE114.out) | exact HB.out)) : P := h
theorem q44_ {P : Prop} (h : P := by repeat (first | (with_reducible first | exact HI0.out | apply IsS53.alloc | apply IsS53.drewN | apply IsS53.drew | apply IsS53.set_1 | apply IsS53.set_2 | refine IsS53.far ?_ NB0_101.out _ | refine IsS53.far ?_ NB0_114.out _) | exact HI0.out)) : P := h
theorem q45_ {P : Prop} (h : P := by first | exact Kd.own_blk (Kd.R_away HO_5.out (fun _ hk=>hk)) | (rw [add_block];exact Kd.own_blk (Kd.R_away HO_5.out (fun _ hk=>hk))) | (show (Addr.add _ _).block ≠ _;rw [add_block];exact Kd.own_blk (Kd.R_away HO_5.out (fun _ hk=>hk))) | (dsimp only;exact Kd.own_blk (Kd.R_away HO_5.out (fun _ hk=>hk)))) : P := h
theorem q46_ {P : Prop} (h : P := by (with_reducible repeat (first | refine blk_drewN ?_ _ | refine blk_drew ?_ | refine blk_alloc ?_ _));refine blk_far ?_ NB101_114.out _;(with_reducible repeat (first | refine blk_drewN ?_ _ | refine blk_drew ?_ | refine blk_alloc ?_ _));refine blk_far ?_ NB101_114.out _;(with_reducible repeat (first | refine blk_drewN ?_ _ | refine blk_drew ?_ | refine blk_alloc ?_ _));refine blk_far ?_ NB101_114.out _;(with_reducible repeat (first | refine blk_drewN ?_ _ | refine blk_drew ?_ | refine blk_alloc ?_ _));exact BK101.out) : P := h
theorem q47_ {P : Prop} (h : P := by (with_reducible repeat (first | refine blk_drewN ?_ _ | refine blk_drew ?_ | refine blk_alloc ?_ _));refine blk_put (cs:=#[.int .i64 a1,.int .i64 (wrap64 (a1 + t105)),.string (⟨#[]⟩ : ByteArray)]) ?_ 2 _ rfl;(with_reducible repeat (first | refine blk_drewN ?_ _ | refine blk_drew ?_ | refine blk_alloc ?_ _));refine blk_put (cs:=#[.int .i64 a1,.int .i64 0,.string (⟨#[]⟩ : ByteArray)]) ?_ 1 _ rfl;(with_reducible repeat (first | refine blk_drewN ?_ _ | refine blk_drew ?_ | refine blk_alloc ?_ _));refine blk_put (cs:=#[.int .i64 0,.int .i64 0,.string (⟨#[]⟩ : ByteArray)]) ?_ 0 _ rfl;(with_reducible repeat (first | refine blk_drewN ?_ _ | refine blk_drew ?_ | refine blk_alloc ?_ _));exact BK114.out) : P := h
theorem q48_ {P : Prop} (h : P := by (with_reducible repeat (first | refine blk_drewN ?_ _ | refine blk_drew ?_ | refine blk_alloc ?_ _));refine blk_put (cs:=#[.int .i64 ((rd_T25 l0 x7_1).f0),.int .i64 ((rd_T25 l0 x7_1).f1),.string (⟨#[]⟩ : ByteArray)]) ?_ 2 _ rfl;(with_reducible repeat (first | refine blk_drewN ?_ _ | refine blk_drew ?_ | refine blk_alloc ?_ _));refine blk_put (cs:=#[.int .i64 ((rd_T25 l0 x7_1).f0),.int .i64 0,.string (⟨#[]⟩ : ByteArray)]) ?_ 1 _ rfl;(with_reducible repeat (first | refine blk_drewN ?_ _ | refine blk_drew ?_ | refine blk_alloc ?_ _));refine blk_put (cs:=#[.int .i64 0,.int .i64 0,.string (⟨#[]⟩ : ByteArray)]) ?_ 0 _ rfl;(with_reducible repeat (first | refine blk_drewN ?_ _ | refine blk_drew ?_ | refine blk_alloc ?_ _));exact BK102.out) : P := h
theorem q49_ {P : Prop} (h : P := by rw [hg];exact (below_size (q20_))) : P := h
theorem q50_ {P : Prop} (h : P := by first | (rw [add_block];exact Kd.own_blk (IsS53.own_ne HI102.out HO_5.out (by decide))) | (show (Addr.add _ _).block ≠ _;rw [add_block];exact Kd.own_blk (IsS53.own_ne HI102.out HO_5.out (by decide))) | exact Kd.own_blk (IsS53.own_ne HI102.out HO_5.out (by decide))) : P := h
theorem q51_ {P : Prop} (h : P := by (with_reducible repeat (first | apply Kd.R_alloc | apply Kd.R_drewN | apply Kd.R_drew));exact (Kd.R_mono (Kd.R_far (p:=⟨gb114,2,none⟩) (Kd.R_far (p:=⟨gb114,1,none⟩) (Kd.R_far (p:=⟨gb114,0,none⟩) (Kd.R_types HO104.out BK114.out (by decide)) (fun _ hk=>hk.2) (.int .i64 a1)) (fun _ hk=>hk.2) (.int .i64 (wrap64 (a1 + t105)))) (fun _ hk=>hk.2) (.string t111)) (fun _ h_=>h_.1))) : P := h
theorem q52_ {P : Prop} (h : P := by (with_reducible repeat (first | apply Kd.R_alloc | apply Kd.R_drewN | apply Kd.R_drew));exact (Kd.R_mono (Kd.R_far (p:=⟨gb114,2,none⟩) (Kd.R_far (p:=⟨gb114,1,none⟩) (Kd.R_far (p:=⟨gb114,0,none⟩) (Kd.R_types HO110.out BK114.out (by decide)) (fun _ hk=>hk.2) (.int .i64 a1)) (fun _ hk=>hk.2) (.int .i64 (wrap64 (a1 + t105)))) (fun _ hk=>hk.2) (.string t111)) (fun _ h_=>h_.1))) : P := h
theorem q53_ {P : Prop} (h : P := by simp only [Act.put,List.setIfInBounds_toArray,List.set_cons_zero,List.set_cons_succ,i64_w,i32_w];rfl) : P := h
end Go.Proofs.YtglcpghappepaaaGreatDoor.G
end
section
/- The steps of drawing regions that repeat word by word, each under a short name; what has come up in them. No condition. -/
set_option linter.unusedVariables false
namespace Go.Proofs.YtglcpghappepaaaGreatDoor.G
open Go.RowKit Go.Proofs.YtglcpghappepaaaGreatDoorW.PrintWords Go.Proofs.YtglcpghappepaaaGreatDoorW.PrintLast Go.Proofs.YtglcpghappepaaaGreatDoorW.PrintMore
theorem cX_ {P Q : Prop} (h : P) (f : P → Q := by intro h_; repeat (first | exact h_ | (with_reducible refine Kd.C_alloc ?_ _) | (with_reducible refine Kd.C_drewN ?_ _) | (with_reducible refine Kd.C_drew ?_))) : Q := f h
theorem rB_ {α : Type} {d : Kd α} {e base : Nat} {ok : Nat → Prop} {v : Value} {xs : List α} {w w1 w2 : World} (H : Aside0 (d.R e w base ok v xs)) (hb : Below w1.heap.size w1 w2) (f : d.R e w base ok v xs → d.R e w1 base ok v xs := by intro h_; (with_reducible repeat (first | apply Kd.R_alloc | apply Kd.R_drewN | apply Kd.R_drew)); exact h_) : Aside0 (d.R e w2 base ok v xs) := ⟨Kd.R_below (f H.out) hb⟩
theorem rE_ {α β : Type} {d : Kd α} {d' : Kd β} {e e' base : Nat} {ok ok' : Nat → Prop} {u v : Value} {xs : List α} {ys : List β} {w w1 w2 w3 : World} (H : Aside0 (d.R e w base ok u xs)) (ho : d'.R e' w3 w1.heap.size ok' v ys) (hb : Below w1.heap.size w1 w2) (f : d.R e w base ok u xs → d.R e w1 base ok u xs := by intro h_; (with_reducible repeat (first | apply Kd.R_alloc | apply Kd.R_drewN | apply Kd.R_drew)); exact h_) : Aside0 (d.R e w2 base (fun k => ok k ∧ some k ≠ v.ownBlock) u xs) := ⟨Kd.R_elder' (f H.out) (Kd.R_base ho) hb⟩
theorem bS_ {w w1 w2 w3 : World} (H : Aside0 (Below w.heap.size w w1)) (hb : Below w2.heap.size w2 w3) (f : Below w.heap.size w w1 → Below w.heap.size w w2 := by intro h_; repeat (first | (with_reducible first | exact h_ | apply below_alloc | apply pw_below_drewN | apply below_drew1) | exact h_)) : Aside0 (Below w.heap.size w w3) := ⟨below_step (f H.out) hb⟩
theorem bkB_ {w w1 w2 : World} {g : Nat} {o : Obj} (H : Aside0 (w.heap[g]? = some o)) (hb : Below w1.heap.size w1 w2) (f : w.heap[g]? = some o → w1.heap[g]? = some o := by intro h_; (with_reducible repeat (first | refine blk_drewN ?_ _ | refine blk_drew ?_ | refine blk_alloc ?_ _)); exact h_) : Aside0 (w2.heap[g]? = some o) := ⟨blk_below (f H.out) hb⟩
theorem hB_ {w w1 : World} {p : Addr} {v : Value} (hb : Below w.heap.size w w1) (h : w.cell? p = some v) : w1.cell? p = some v := (hb.cell (World.block_lt_of_cell? w _ h)).trans h
theorem pa_ {P : Program} {ops : Array Oper} {Q : Exit → Act → World → Prop} {md : Region.Mode} {S : World → Prop} {ds : List Nat} {oi : Oper} {v : Value} {fuel : Nat} {l : Array Bool} {a : Act} {w : World} (i n : Nat) (l' : Array Bool) {a' : Act} (h : wpAnyLast P md ops Q S ds fuel l' a' w) (hi : ops[i]? = some oi := by rfl) (hN : oi.dst = some n := by rfl) (hc : anyB md ops l l' i = true := by exact any_of HT_.out (by kernel_rfl)) (hQ : ∀ c a w, Q (.panic c) (a.put oi.dst v) w → Q (.panic c) a w := by exact fun _ _ _ h => h) (hy : Yields P ops oi v a := by exact Or.inl ⟨by rfl, by intro w'; go_simp; with_reducible rfl⟩) (ha : a.put (some n) v = a' := by simp only [Act.put,List.setIfInBounds_toArray,List.set_cons_zero,List.set_cons_succ,i64_w,i32_w]; rfl) : wpAnyLast P md ops Q S ds (fuel + 1) l a w := pure_ l' hi hN hc hQ hy ha h
theorem pu_ {P : Program} {ops : Array Oper} {Q : Exit → Act → World → Prop} {md : Region.Mode} {S : World → Prop} {ds : List Nat} {oi : Oper} {fuel : Nat} {l : Array Bool} {a : Act} {w : World} (i n : Nat) (l' : Array Bool) {a' : Act} (h : wpAnyLast P md ops Q S ds fuel l' a' w) (hi : ops[i]? = some oi := by rfl) (hN : oi.dst = some n := by rfl) (hc : anyB md ops l l' i = true := by exact any_of HT_.out (by kernel_rfl)) (hQ : ∀ c a w, Q (.panic c) (a.put oi.dst undef) w → Q (.panic c) a w := by exact fun _ _ _ h => h) (hy : Yields P ops oi undef a := by exact Or.inr ⟨by rfl, rfl⟩) (ha : a.put (some n) undef = a' := by simp only [Act.put,List.setIfInBounds_toArray,List.set_cons_zero,List.set_cons_succ,i64_w,i32_w]; rfl) : wpAnyLast P md ops Q S ds (fuel + 1) l a w := pure_ l' hi hN hc hQ hy ha h
def f0_ : Array Bool := (fun t f => #[f,f,f,f,f,f,f,f,f,f,f,f,f,f,f,f]) true false
def f1_ : Array Bool := (fun t f => #[t,f,f,f,f,f,f,f,f,f,f,f,f,f,f,f]) true false
def f2_ : Array Bool := (fun t f => #[t,t,f,f,f,f,f,f,f,f,f,f,f,f,f,f]) true false
def f3_ : Array Bool := (fun t f => #[t,t,t,f,f,f,f,f,f,f,f,f,f,f,f,f]) true false
def f4_ : Array Bool := (fun t f => #[t,t,t,f,f,t,f,f,f,f,f,f,f,f,f,f]) true false
def f5_ : Array Bool := (fun t f => #[t,t,t,f,f,t,t,f,f,f,f,f,f,f,f,f]) true false
def f6_ : Array Bool := (fun t f => #[t,t,t,f,f,t,t,f,f,t,f,f,f,f,f,f]) true false
def f7_ : Array Bool := (fun t f => #[t,t,t,f,f,t,t,f,f,t,t,f,f,f,f,f]) true false
def f8_ : Array Bool := (fun t f => #[t,t,t,t,f,t,t,f,f,t,t,f,f,f,f,f]) true false
def f9_ : Array Bool := (fun t f => #[t,t,t,t,f,t,t,t,f,t,t,f,f,f,f,f]) true false
def f10_ : Array Bool := (fun t f => #[t,t,t,t,f,t,t,t,f,t,t,t,f,f,f,f]) true false
def f11_ : Array Bool := (fun t f => #[t,t,t,t,t,t,t,t,f,t,t,t,f,f,f,f]) true false
def f12_ : Array Bool := (fun t f => #[t,t,t,t,t,t,t,t,t,t,t,t,f,f,f,f]) true false
def f13_ : Array Bool := (fun t f => #[t,t,t,t,t,t,t,t,t,t,t,t,t,f,f,f]) true false
def f14_ : Array Bool := (fun t f => #[t,t,t,t,t,t,t,t,t,t,t,t,t,t,f,f]) true false
def f15_ : Array Bool := (fun t f => #[t,t,t,t,t,t,t,t,t,t,t,t,t,t,t,f]) true false
def f16_ : Array Bool := (fun t f => #[t,t,t,t,t,t,t,t,t,t,t,t,t,t,t,t]) true false
def f17_ : Array Bool := (fun t f => #[f,f,f,f,f,f,f,f,f,f,f,f,f,f,f,f,f,f]) true false
def f18_ : Array Bool := (fun t f => #[t,f,f,f,f,f,f,f,f,f,f,f,f,f,f,f,f,f]) true false
def f19_ : Array Bool := (fun t f => #[t,t,f,f,f,f,f,f,f,f,f,f,f,f,f,f,f,f]) true false
def f20_ : Array Bool := (fun t f => #[t,t,t,f,f,f,f,f,f,f,f,f,f,f,f,f,f,f]) true false
def f21_ : Array Bool := (fun t f => #[t,t,t,t,f,f,f,f,f,f,f,f,f,f,f,f,f,f]) true false
def f22_ : Array Bool := (fun t f => #[t,t,t,t,t,f,f,f,f,f,f,f,f,f,f,f,f,f]) true false
def f23_ : Array Bool := (fun t f => #[t,t,t,t,t,t,f,f,f,f,f,f,f,f,f,f,f,f]) true false
def f24_ : Array Bool := (fun t f => #[t,t,t,t,t,t,t,f,f,f,f,f,f,f,f,f,f,f]) true false
def f25_ : Array Bool := (fun t f => #[t,t,t,t,t,t,t,t,f,f,f,f,f,f,f,f,f,f]) true false
def f26_ : Array Bool := (fun t f => #[t,t,t,t,t,t,t,t,t,f,f,f,f,f,f,f,f,f]) true false
def f27_ : Array Bool := (fun t f => #[t,t,t,t,t,t,t,t,t,t,f,f,f,f,f,f,f,f]) true false
def f28_ : Array Bool := (fun t f => #[t,t,t,t,t,t,t,t,t,t,t,f,f,f,f,f,f,f]) true false
def f29_ : Array Bool := (fun t f => #[t,t,t,t,t,t,t,t,t,t,t,t,f,f,f,f,f,f]) true false
def f30_ : Array Bool := (fun t f => #[t,t,t,t,t,t,t,t,t,t,t,t,f,t,f,f,f,f]) true false
def f31_ : Array Bool := (fun t f => #[t,t,t,t,t,t,t,t,t,t,t,t,t,t,f,f,f,f]) true false
def f32_ : Array Bool := (fun t f => #[t,t,t,t,t,t,t,t,t,t,t,t,t,t,t,f,f,f]) true false
def f33_ : Array Bool := (fun t f => #[t,t,t,t,t,t,t,t,t,t,t,t,t,t,t,t,f,f]) true false
def f34_ : Array Bool := (fun t f => #[t,t,t,t,t,t,t,t,t,t,t,t,t,t,t,t,t,f]) true false
def f35_ : Array Bool := (fun t f => #[t,t,t,t,t,t,t,t,t,t,t,t,t,t,t,t,t,t]) true false
def f36_ : Array Bool := (fun t f => #[t,t,t,t,t,t,t,t,t,t,t,t,t,f,f,f,f,f]) true false
def f37_ : Array Bool := (fun t f => #[f,f,f,f,f,f,f,f,f,f,f]) true false
def f38_ : Array Bool := (fun t f => #[t,f,f,f,f,f,f,f,f,f,f]) true false
def f39_ : Array Bool := (fun t f => #[t,t,f,f,f,f,f,f,f,f,f]) true false
def f40_ : Array Bool := (fun t f => #[t,t,t,f,f,f,f,f,f,f,f]) true false
def f41_ : Array Bool := (fun t f => #[t,t,t,t,f,f,f,f,f,f,f]) true false
def f42_ : Array Bool := (fun t f => #[t,t,t,t,f,t,f,f,f,f,f]) true false
def f43_ : Array Bool := (fun t f => #[t,t,t,t,f,t,t,f,f,f,f]) true false
def f44_ : Array Bool := (fun t f => #[t,t,t,t,f,t,t,t,f,f,f]) true false
def f45_ : Array Bool := (fun t f => #[t,t,t,t,t,t,t,t,f,f,f]) true false
def f46_ : Array Bool := (fun t f => #[t,t,t,t,t,t,t,t,t,f,f]) true false
def f47_ : Array Bool := (fun t f => #[t,t,t,t,t,t,t,t,t,t,f]) true false
def f48_ : Array Bool := (fun t f => #[t,t,t,t,t,t,t,t,t,t,t]) true false
def f49_ : Array Bool := (fun t f => #[t,t,t,t,t,t,t,t,t,f,t,f,f,f,f,f,f,f]) true false
def f50_ : Array Bool := (fun t f => #[t,t,t,t,t,t,t,t,t,f,t,t,f,f,f,f,f,f]) true false
def f51_ : Array Bool := (fun t f => #[t,t,t,t,t,t,t,t,t,f,t,t,t,f,f,f,f,f]) true false
def f52_ : Array Bool := (fun t f => #[f,f,f,f,f,f,f,f,f,f,f,f]) true false
def f53_ : Array Bool := (fun t f => #[t,f,f,f,f,f,f,f,f,f,f,f]) true false
def f54_ : Array Bool := (fun t f => #[t,t,f,f,f,f,f,f,f,f,f,f]) true false
def f55_ : Array Bool := (fun t f => #[t,t,t,f,f,f,f,f,f,f,f,f]) true false
def f56_ : Array Bool := (fun t f => #[t,t,t,t,f,f,f,f,f,f,f,f]) true false
def f57_ : Array Bool := (fun t f => #[t,t,t,t,f,t,f,f,f,f,f,f]) true false
def f58_ : Array Bool := (fun t f => #[t,t,t,t,f,t,t,f,f,f,f,f]) true false
def f59_ : Array Bool := (fun t f => #[t,t,t,t,f,t,t,t,f,f,f,f]) true false
def f60_ : Array Bool := (fun t f => #[t,t,t,t,t,t,t,t,f,f,f,f]) true false
def f61_ : Array Bool := (fun t f => #[t,t,t,t,t,t,t,t,t,f,f,f]) true false
def f62_ : Array Bool := (fun t f => #[t,t,t,t,t,t,t,t,t,t,f,f]) true false
def f63_ : Array Bool := (fun t f => #[t,t,t,t,t,t,t,t,t,t,t,f]) true false
def f64_ : Array Bool := (fun t f => #[t,t,t,t,t,t,t,t,t,t,t,t]) true false
def f65_ : Array Bool := (fun t f => #[f,f,f,f,f,f,f,f,f,f,f,f,f,f]) true false
def f66_ : Array Bool := (fun t f => #[t,f,f,f,f,f,f,f,f,f,f,f,f,f]) true false
def f67_ : Array Bool := (fun t f => #[t,t,f,f,f,f,f,f,f,f,f,f,f,f]) true false
def f68_ : Array Bool := (fun t f => #[t,t,t,f,f,f,f,f,f,f,f,f,f,f]) true false
def f69_ : Array Bool := (fun t f => #[t,t,t,t,f,f,f,f,f,f,f,f,f,f]) true false
def f70_ : Array Bool := (fun t f => #[t,t,t,t,t,f,f,f,f,f,f,f,f,f]) true false
def f71_ : Array Bool := (fun t f => #[t,t,t,t,t,t,f,f,f,f,f,f,f,f]) true false
def f72_ : Array Bool := (fun t f => #[t,t,t,t,t,t,f,t,f,f,f,f,f,f]) true false
def f73_ : Array Bool := (fun t f => #[t,t,t,t,t,t,f,t,t,f,f,f,f,f]) true false
def f74_ : Array Bool := (fun t f => #[t,t,t,t,t,t,f,t,t,t,f,f,f,f]) true false
def f75_ : Array Bool := (fun t f => #[t,t,t,t,t,t,t,t,t,t,f,f,f,f]) true false
def f76_ : Array Bool := (fun t f => #[t,t,t,t,t,t,t,t,t,t,t,f,f,f]) true false
def f77_ : Array Bool := (fun t f => #[t,t,t,t,t,t,t,t,t,t,t,t,f,f]) true false
def f78_ : Array Bool := (fun t f => #[t,t,t,t,t,t,t,t,t,t,t,t,t,f]) true false
def f79_ : Array Bool := (fun t f => #[t,t,t,t,t,t,t,t,t,t,t,t,t,t]) true false
def f80_ : Array Bool := (fun t f => #[f,f,f,f,f,f,f,f,f,f,f,f,f,f,f,f,f]) true false
def f81_ : Array Bool := (fun t f => #[t,f,f,f,f,f,f,f,f,f,f,f,f,f,f,f,f]) true false
def f82_ : Array Bool := (fun t f => #[t,t,f,f,f,f,f,f,f,f,f,f,f,f,f,f,f]) true false
def f83_ : Array Bool := (fun t f => #[t,t,t,f,f,f,f,f,f,f,f,f,f,f,f,f,f]) true false
def f84_ : Array Bool := (fun t f => #[t,t,t,t,f,f,f,f,f,f,f,f,f,f,f,f,f]) true false
def f85_ : Array Bool := (fun t f => #[t,t,t,t,t,f,f,f,f,f,f,f,f,f,f,f,f]) true false
def f86_ : Array Bool := (fun t f => #[t,t,t,t,t,t,f,f,f,f,f,f,f,f,f,f,f]) true false
def f87_ : Array Bool := (fun t f => #[t,t,t,t,t,t,t,f,f,f,f,f,f,f,f,f,f]) true false
def f88_ : Array Bool := (fun t f => #[t,t,t,t,t,t,t,t,f,f,f,f,f,f,f,f,f]) true false
def f89_ : Array Bool := (fun t f => #[t,t,t,t,t,t,t,t,f,t,f,f,f,f,f,f,f]) true false
def f90_ : Array Bool := (fun t f => #[t,t,t,t,t,t,t,t,f,t,t,f,f,f,f,f,f]) true false
def f91_ : Array Bool := (fun t f => #[t,t,t,t,t,t,t,t,f,t,t,t,f,f,f,f,f]) true false
def f92_ : Array Bool := (fun t f => #[t,t,t,t,t,t,t,t,f,t,t,t,t,f,f,f,f]) true false
def f93_ : Array Bool := (fun t f => #[t,t,t,t,t,t,t,t,t,t,t,t,t,f,f,f,f]) true false
def f94_ : Array Bool := (fun t f => #[t,t,t,t,t,t,t,t,t,t,t,t,t,t,f,f,f]) true false
def f95_ : Array Bool := (fun t f => #[t,t,t,t,t,t,t,t,t,t,t,t,t,t,t,f,f]) true false
def f96_ : Array Bool := (fun t f => #[t,t,t,t,t,t,t,t,t,t,t,t,t,t,t,t,f]) true false
def f97_ : Array Bool := (fun t f => #[t,t,t,t,t,t,t,t,t,t,t,t,t,t,t,t,t]) true false
def f98_ : Array Bool := (fun t f => #[t,t,t,t,t,t,t,t,t,f,f,f,f,f,f,f,f]) true false
def f99_ : Array Bool := (fun t f => #[t,t,t,t,t,t,t,t,t,t,f,f,f,f,f,f,f]) true false
def f100_ : Array Bool := (fun t f => #[t,t,t,t,t,t,t,t,t,t,t,f,f,f,f,f,f]) true false
def f101_ : Array Bool := (fun t f => #[t,t,t,t,t,t,t,t,t,t,t,t,f,f,f,f,f]) true false
def f102_ : Array Bool := (fun t f => #[f,f,f,f,f,f,f,f,f,f,f,f,f,f,f,f,f,f,f,f,f,f,f,f,f,f,f,f,f,f,f,f,f,f,f,f,f,f,f,f,f,f,f,f,f,f,f,f,f,f,f,f,f,f,f,f,f,f,f,f,f,f,f,f,f,f,f,f,f,f,f,f,f,f,f,f,f,f,f,f,f,f,f,f,f]) true false
def f103_ : Array Bool := (fun t f => #[t,f,f,f,f,f,f,f,f,f,f,f,f,f,f,f,f,f,f,f,f,f,f,f,f,f,f,f,f,f,f,f,f,f,f,f,f,f,f,f,f,f,f,f,f,f,f,f,f,f,f,f,f,f,f,f,f,f,f,f,f,f,f,f,f,f,f,f,f,f,f,f,f,f,f,f,f,f,f,f,f,f,f,f,f]) true false
def f104_ : Array Bool := (fun t f => #[t,t,f,f,f,f,f,f,f,f,f,f,f,f,f,f,f,f,f,f,f,f,f,f,f,f,f,f,f,f,f,f,f,f,f,f,f,f,f,f,f,f,f,f,f,f,f,f,f,f,f,f,f,f,f,f,f,f,f,f,f,f,f,f,f,f,f,f,f,f,f,f,f,f,f,f,f,f,f,f,f,f,f,f,f]) true false
def f105_ : Array Bool := (fun t f => #[t,t,t,f,f,f,f,f,f,f,f,f,f,f,f,f,f,f,f,f,f,f,f,f,f,f,f,f,f,f,f,f,f,f,f,f,f,f,f,f,f,f,f,f,f,f,f,f,f,f,f,f,f,f,f,f,f,f,f,f,f,f,f,f,f,f,f,f,f,f,f,f,f,f,f,f,f,f,f,f,f,f,f,f,f]) true false
def f106_ : Array Bool := (fun t f => #[t,t,t,t,f,f,f,f,f,f,f,f,f,f,f,f,f,f,f,f,f,f,f,f,f,f,f,f,f,f,f,f,f,f,f,f,f,f,f,f,f,f,f,f,f,f,f,f,f,f,f,f,f,f,f,f,f,f,f,f,f,f,f,f,f,f,f,f,f,f,f,f,f,f,f,f,f,f,f,f,f,f,f,f,f]) true false
def f107_ : Array Bool := (fun t f => #[t,t,t,t,t,f,f,f,f,f,f,f,f,f,f,f,f,f,f,f,f,f,f,f,f,f,f,f,f,f,f,f,f,f,f,f,f,f,f,f,f,f,f,f,f,f,f,f,f,f,f,f,f,f,f,f,f,f,f,f,f,f,f,f,f,f,f,f,f,f,f,f,f,f,f,f,f,f,f,f,f,f,f,f,f]) true false
def f108_ : Array Bool := (fun t f => #[t,t,t,t,t,t,f,f,f,f,f,f,f,f,f,f,f,f,f,f,f,f,f,f,f,f,f,f,f,f,f,f,f,f,f,f,f,f,f,f,f,f,f,f,f,f,f,f,f,f,f,f,f,f,f,f,f,f,f,f,f,f,f,f,f,f,f,f,f,f,f,f,f,f,f,f,f,f,f,f,f,f,f,f,f]) true false
def f109_ : Array Bool := (fun t f => #[t,t,t,t,t,t,t,f,f,f,f,f,f,f,f,f,f,f,f,f,f,f,f,f,f,f,f,f,f,f,f,f,f,f,f,f,f,f,f,f,f,f,f,f,f,f,f,f,f,f,f,f,f,f,f,f,f,f,f,f,f,f,f,f,f,f,f,f,f,f,f,f,f,f,f,f,f,f,f,f,f,f,f,f,f]) true false
def f110_ : Array Bool := (fun t f => #[t,t,t,t,t,t,t,t,f,f,f,f,f,f,f,f,f,f,f,f,f,f,f,f,f,f,f,f,f,f,f,f,f,f,f,f,f,f,f,f,f,f,f,f,f,f,f,f,f,f,f,f,f,f,f,f,f,f,f,f,f,f,f,f,f,f,f,f,f,f,f,f,f,f,f,f,f,f,f,f,f,f,f,f,f]) true false
def f111_ : Array Bool := (fun t f => #[t,t,t,t,t,t,t,t,t,f,f,f,f,f,f,f,f,f,f,f,f,f,f,f,f,f,f,f,f,f,f,f,f,f,f,f,f,f,f,f,f,f,f,f,f,f,f,f,f,f,f,f,f,f,f,f,f,f,f,f,f,f,f,f,f,f,f,f,f,f,f,f,f,f,f,f,f,f,f,f,f,f,f,f,f]) true false
def f112_ : Array Bool := (fun t f => #[t,t,t,t,t,t,t,t,t,t,f,f,f,f,f,f,f,f,f,f,f,f,f,f,f,f,f,f,f,f,f,f,f,f,f,f,f,f,f,f,f,f,f,f,f,f,f,f,f,f,f,f,f,f,f,f,f,f,f,f,f,f,f,f,f,f,f,f,f,f,f,f,f,f,f,f,f,f,f,f,f,f,f,f,f]) true false
def f113_ : Array Bool := (fun t f => #[t,t,t,t,t,t,t,t,t,t,t,f,f,f,f,f,f,f,f,f,f,f,f,f,f,f,f,f,f,f,f,f,f,f,f,f,f,f,f,f,f,f,f,f,f,f,f,f,f,f,f,f,f,f,f,f,f,f,f,f,f,f,f,f,f,f,f,f,f,f,f,f,f,f,f,f,f,f,f,f,f,f,f,f,f]) true false
def f114_ : Array Bool := (fun t f => #[t,t,t,t,t,t,t,t,t,t,t,t,f,f,f,f,f,f,f,f,f,f,f,f,f,f,f,f,f,f,f,f,f,f,f,f,f,f,f,f,f,f,f,f,f,f,f,f,f,f,f,f,f,f,f,f,f,f,f,f,f,f,f,f,f,f,f,f,f,f,f,f,f,f,f,f,f,f,f,f,f,f,f,f,f]) true false
def f115_ : Array Bool := (fun t f => #[t,t,t,t,t,t,t,t,t,t,t,t,t,f,f,f,f,f,f,f,f,f,f,f,f,f,f,f,f,f,f,f,f,f,f,f,f,f,f,f,f,f,f,f,f,f,f,f,f,f,f,f,f,f,f,f,f,f,f,f,f,f,f,f,f,f,f,f,f,f,f,f,f,f,f,f,f,f,f,f,f,f,f,f,f]) true false
def f116_ : Array Bool := (fun t f => #[t,t,t,t,t,t,t,t,t,t,t,t,t,t,f,f,f,f,f,f,f,f,f,f,f,f,f,f,f,f,f,f,f,f,f,f,f,f,f,f,f,f,f,f,f,f,f,f,f,f,f,f,f,f,f,f,f,f,f,f,f,f,f,f,f,f,f,f,f,f,f,f,f,f,f,f,f,f,f,f,f,f,f,f,f]) true false
def f117_ : Array Bool := (fun t f => #[t,t,t,t,t,t,t,t,t,t,t,t,t,t,t,f,f,f,f,f,f,f,f,f,f,f,f,f,f,f,f,f,f,f,f,f,f,f,f,f,f,f,f,f,f,f,f,f,f,f,f,f,f,f,f,f,f,f,f,f,f,f,f,f,f,f,f,f,f,f,f,f,f,f,f,f,f,f,f,f,f,f,f,f,f]) true false
def f118_ : Array Bool := (fun t f => #[t,t,t,t,t,t,t,t,t,t,t,t,t,t,t,t,f,f,f,f,f,f,f,f,f,f,f,f,f,f,f,f,f,f,f,f,f,f,f,f,f,f,f,f,f,f,f,f,f,f,f,f,f,f,f,f,f,f,f,f,f,f,f,f,f,f,f,f,f,f,f,f,f,f,f,f,f,f,f,f,f,f,f,f,f]) true false
def f119_ : Array Bool := (fun t f => #[t,t,t,t,t,t,t,t,t,t,t,t,t,t,t,t,t,f,f,f,f,f,f,f,f,f,f,f,f,f,f,f,f,f,f,f,f,f,f,f,f,f,f,f,f,f,f,f,f,f,f,f,f,f,f,f,f,f,f,f,f,f,f,f,f,f,f,f,f,f,f,f,f,f,f,f,f,f,f,f,f,f,f,f,f]) true false
def f120_ : Array Bool := (fun t f => #[t,t,t,t,t,t,t,t,t,t,t,t,t,t,t,t,t,t,f,f,f,f,f,f,f,f,f,f,f,f,f,f,f,f,f,f,f,f,f,f,f,f,f,f,f,f,f,f,f,f,f,f,f,f,f,f,f,f,f,f,f,f,f,f,f,f,f,f,f,f,f,f,f,f,f,f,f,f,f,f,f,f,f,f,f]) true false
def f121_ : Array Bool := (fun t f => #[t,t,t,t,t,t,t,t,t,t,t,t,t,t,t,t,t,t,t,f,f,f,f,f,f,f,f,f,f,f,f,f,f,f,f,f,f,f,f,f,f,f,f,f,f,f,f,f,f,f,f,f,f,f,f,f,f,f,f,f,f,f,f,f,f,f,f,f,f,f,f,f,f,f,f,f,f,f,f,f,f,f,f,f,f]) true false
def f122_ : Array Bool := (fun t f => #[t,t,t,t,t,t,t,t,t,t,t,t,t,t,t,t,t,t,t,t,f,f,f,f,f,f,f,f,f,f,f,f,f,f,f,f,f,f,f,f,f,f,f,f,f,f,f,f,f,f,f,f,f,f,f,f,f,f,f,f,f,f,f,f,f,f,f,f,f,f,f,f,f,f,f,f,f,f,f,f,f,f,f,f,f]) true false
def f123_ : Array Bool := (fun t f => #[t,t,t,t,t,t,t,t,t,t,t,t,t,t,t,t,t,t,t,t,t,f,f,f,f,f,f,f,f,f,f,f,f,f,f,f,f,f,f,f,f,f,f,f,f,f,f,f,f,f,f,f,f,f,f,f,f,f,f,f,f,f,f,f,f,f,f,f,f,f,f,f,f,f,f,f,f,f,f,f,f,f,f,f,f]) true false
def f124_ : Array Bool := (fun t f => #[t,t,t,t,t,t,t,t,t,t,t,t,t,t,t,t,t,t,t,t,t,t,f,f,f,f,f,f,f,f,f,f,f,f,f,f,f,f,f,f,f,f,f,f,f,f,f,f,f,f,f,f,f,f,f,f,f,f,f,f,f,f,f,f,f,f,f,f,f,f,f,f,f,f,f,f,f,f,f,f,f,f,f,f,f]) true false
def f125_ : Array Bool := (fun t f => #[t,t,t,t,t,t,t,t,t,t,t,t,t,t,t,t,t,t,t,t,t,t,t,f,f,f,f,f,f,f,f,f,f,f,f,f,f,f,f,f,f,f,f,f,f,f,f,f,f,f,f,f,f,f,f,f,f,f,f,f,f,f,f,f,f,f,f,f,f,f,f,f,f,f,f,f,f,f,f,f,f,f,f,f,f]) true false
def f126_ : Array Bool := (fun t f => #[t,t,t,t,t,t,t,t,t,t,t,t,t,t,t,t,t,t,t,t,t,t,t,t,f,f,f,f,f,f,f,f,f,f,f,f,f,f,f,f,f,f,f,f,f,f,f,f,f,f,f,f,f,f,f,f,f,f,f,f,f,f,f,f,f,f,f,f,f,f,f,f,f,f,f,f,f,f,f,f,f,f,f,f,f]) true false
def f127_ : Array Bool := (fun t f => #[t,t,t,t,t,t,t,t,t,t,t,t,t,t,t,t,t,t,t,t,t,t,t,t,t,f,f,f,f,f,f,f,f,f,f,f,f,f,f,f,f,f,f,f,f,f,f,f,f,f,f,f,f,f,f,f,f,f,f,f,f,f,f,f,f,f,f,f,f,f,f,f,f,f,f,f,f,f,f,f,f,f,f,f,f]) true false
def f128_ : Array Bool := (fun t f => #[t,t,t,t,t,t,t,t,t,t,t,t,t,t,t,t,t,t,t,t,t,t,t,t,t,t,f,f,f,f,f,f,f,f,f,f,f,f,f,f,f,f,f,f,f,f,f,f,f,f,f,f,f,f,f,f,f,f,f,f,f,f,f,f,f,f,f,f,f,f,f,f,f,f,f,f,f,f,f,f,f,f,f,f,f]) true false
def f129_ : Array Bool := (fun t f => #[t,t,t,t,t,t,t,t,t,t,t,t,t,t,t,t,t,t,t,t,t,t,t,t,t,t,t,f,f,f,f,f,f,f,f,f,f,f,f,f,f,f,f,f,f,f,f,f,f,f,f,f,f,f,f,f,f,f,f,f,f,f,f,f,f,f,f,f,f,f,f,f,f,f,f,f,f,f,f,f,f,f,f,f,f]) true false
def f130_ : Array Bool := (fun t f => #[t,t,t,t,t,t,t,t,t,t,t,t,t,t,t,t,t,t,t,t,t,t,t,t,t,t,t,t,f,f,f,f,f,f,f,f,f,f,f,f,f,f,f,f,f,f,f,f,f,f,f,f,f,f,f,f,f,f,f,f,f,f,f,f,f,f,f,f,f,f,f,f,f,f,f,f,f,f,f,f,f,f,f,f,f]) true false
def f131_ : Array Bool := (fun t f => #[t,t,t,t,t,t,t,t,t,t,t,t,t,t,t,t,t,t,t,t,t,t,t,t,t,t,t,t,t,f,f,f,f,f,f,f,f,f,f,f,f,f,f,f,f,f,f,f,f,f,f,f,f,f,f,f,f,f,f,f,f,f,f,f,f,f,f,f,f,f,f,f,f,f,f,f,f,f,f,f,f,f,f,f,f]) true false
def f132_ : Array Bool := (fun t f => #[t,t,t,t,t,t,t,t,t,t,t,t,t,t,t,t,t,t,t,t,t,t,t,t,t,t,t,t,t,t,f,f,f,f,f,f,f,f,f,f,f,f,f,f,f,f,f,f,f,f,f,f,f,f,f,f,f,f,f,f,f,f,f,f,f,f,f,f,f,f,f,f,f,f,f,f,f,f,f,f,f,f,f,f,f]) true false
def f133_ : Array Bool := (fun t f => #[t,t,t,t,t,t,t,t,t,t,t,t,t,t,t,t,t,t,t,t,t,t,t,t,t,t,t,t,t,t,t,f,f,f,f,f,f,f,f,f,f,f,f,f,f,f,f,f,f,f,f,f,f,f,f,f,f,f,f,f,f,f,f,f,f,f,f,f,f,f,f,f,f,f,f,f,f,f,f,f,f,f,f,f,f]) true false
def f134_ : Array Bool := (fun t f => #[t,t,t,t,t,t,t,t,t,t,t,t,t,t,t,t,t,t,t,t,t,t,t,t,t,t,t,t,t,t,t,t,f,f,f,f,f,f,f,f,f,f,f,f,f,f,f,f,f,f,f,f,f,f,f,f,f,f,f,f,f,f,f,f,f,f,f,f,f,f,f,f,f,f,f,f,f,f,f,f,f,f,f,f,f]) true false
def f135_ : Array Bool := (fun t f => #[t,t,t,t,t,t,t,t,t,t,t,t,t,t,t,t,t,t,t,t,t,t,t,t,t,t,t,t,t,t,t,t,t,f,f,f,f,f,f,f,f,f,f,f,f,f,f,f,f,f,f,f,f,f,f,f,f,f,f,f,f,f,f,f,f,f,f,f,f,f,f,f,f,f,f,f,f,f,f,f,f,f,f,f,f]) true false
def f136_ : Array Bool := (fun t f => #[t,t,t,t,t,t,t,t,t,t,t,t,t,t,t,t,t,t,t,t,t,t,t,t,t,t,t,t,t,t,t,t,t,t,f,f,f,f,f,f,f,f,f,f,f,f,f,f,f,f,f,f,f,f,f,f,f,f,f,f,f,f,f,f,f,f,f,f,f,f,f,f,f,f,f,f,f,f,f,f,f,f,f,f,f]) true false
def f137_ : Array Bool := (fun t f => #[t,t,t,t,t,t,t,t,t,t,t,t,t,t,t,t,t,t,t,t,t,t,t,t,t,t,t,t,t,t,t,t,t,t,t,f,f,f,f,f,f,f,f,f,f,f,f,f,f,f,f,f,f,f,f,f,f,f,f,f,f,f,f,f,f,f,f,f,f,f,f,f,f,f,f,f,f,f,f,f,f,f,f,f,f]) true false
def f138_ : Array Bool := (fun t f => #[t,t,t,t,t,t,t,t,t,t,t,t,t,t,t,t,t,t,t,t,t,t,t,t,t,t,t,t,t,t,t,t,t,t,t,t,f,f,f,f,f,f,f,f,f,f,f,f,f,f,f,f,f,f,f,f,f,f,f,f,f,f,f,f,f,f,f,f,f,f,f,f,f,f,f,f,f,f,f,f,f,f,f,f,f]) true false
def f139_ : Array Bool := (fun t f => #[t,t,t,t,t,t,t,t,t,t,t,t,t,t,t,t,t,t,t,t,t,t,t,t,t,t,t,t,t,t,t,t,t,t,t,t,t,f,f,f,f,f,f,f,f,f,f,f,f,f,f,f,f,f,f,f,f,f,f,f,f,f,f,f,f,f,f,f,f,f,f,f,f,f,f,f,f,f,f,f,f,f,f,f,f]) true false
def f140_ : Array Bool := (fun t f => #[t,t,t,t,t,t,t,t,t,t,t,t,t,t,t,t,t,t,t,t,t,t,t,t,t,t,t,t,t,t,t,t,t,t,t,t,t,t,f,f,f,f,f,f,f,f,f,f,f,f,f,f,f,f,f,f,f,f,f,f,f,f,f,f,f,f,f,f,f,f,f,f,f,f,f,f,f,f,f,f,f,f,f,f,f]) true false
def f141_ : Array Bool := (fun t f => #[t,t,t,t,t,t,t,t,t,t,t,t,t,t,t,t,t,t,t,t,t,t,t,t,t,t,t,t,t,t,t,t,t,t,t,t,t,t,t,f,f,f,f,f,f,f,f,f,f,f,f,f,f,f,f,f,f,f,f,f,f,f,f,f,f,f,f,f,f,f,f,f,f,f,f,f,f,f,f,f,f,f,f,f,f]) true false
def f142_ : Array Bool := (fun t f => #[t,t,t,t,t,t,t,t,t,t,t,t,t,t,t,t,t,t,t,t,t,t,t,t,t,t,t,t,t,t,t,t,t,t,t,t,t,t,t,t,f,f,f,f,f,f,f,f,f,f,f,f,f,f,f,f,f,f,f,f,f,f,f,f,f,f,f,f,f,f,f,f,f,f,f,f,f,f,f,f,f,f,f,f,f]) true false
def f143_ : Array Bool := (fun t f => #[t,t,t,t,t,t,t,t,t,t,t,t,t,t,t,t,t,t,t,t,t,t,t,t,t,t,t,t,t,t,t,t,t,t,t,t,t,t,t,t,t,f,f,f,f,f,f,f,f,f,f,f,f,f,f,f,f,f,f,f,f,f,f,f,f,f,f,f,f,f,f,f,f,f,f,f,f,f,f,f,f,f,f,f,f]) true false
def f144_ : Array Bool := (fun t f => #[t,t,t,t,t,t,t,t,t,t,t,t,t,t,t,t,t,t,t,t,t,t,t,t,t,t,t,t,t,t,t,t,t,t,t,t,t,t,t,t,t,t,f,f,f,f,f,f,f,f,f,f,f,f,f,f,f,f,f,f,f,f,f,f,f,f,f,f,f,f,f,f,f,f,f,f,f,f,f,f,f,f,f,f,f]) true false
def f145_ : Array Bool := (fun t f => #[t,t,t,t,t,t,t,t,t,t,t,t,t,t,t,t,t,t,t,t,t,t,t,t,t,t,t,t,t,t,t,t,t,t,t,t,t,t,t,t,t,t,t,f,f,f,f,f,f,f,f,f,f,f,f,f,f,f,f,f,f,f,f,f,f,f,f,f,f,f,f,f,f,f,f,f,f,f,f,f,f,f,f,f,f]) true false
def f146_ : Array Bool := (fun t f => #[t,t,t,t,t,t,t,t,t,t,t,t,t,t,t,t,t,t,t,t,t,t,t,t,t,t,t,t,t,t,t,t,t,t,t,t,t,t,t,t,t,t,t,t,f,f,f,f,f,f,f,f,f,f,f,f,f,f,f,f,f,f,f,f,f,f,f,f,f,f,f,f,f,f,f,f,f,f,f,f,f,f,f,f,f]) true false
def f147_ : Array Bool := (fun t f => #[t,t,t,t,t,t,t,t,t,t,t,t,t,t,t,t,t,t,t,t,t,t,t,t,t,t,t,t,t,t,t,t,t,t,t,t,t,t,t,t,t,t,t,t,t,f,f,f,f,f,f,f,f,f,f,f,f,f,f,f,f,f,f,f,f,f,f,f,f,f,f,f,f,f,f,f,f,f,f,f,f,f,f,f,f]) true false
def f148_ : Array Bool := (fun t f => #[t,t,t,t,t,t,t,t,t,t,t,t,t,t,t,t,t,t,t,t,t,t,t,t,t,t,t,t,t,t,t,t,t,t,t,t,t,t,t,t,t,t,t,t,t,t,f,f,f,f,f,f,f,f,f,f,f,f,f,f,f,f,f,f,f,f,f,f,f,f,f,f,f,f,f,f,f,f,f,f,f,f,f,f,f]) true false
def f149_ : Array Bool := (fun t f => #[t,t,t,t,t,t,t,t,t,t,t,t,t,t,t,t,t,t,t,t,t,t,t,t,t,t,t,t,t,t,t,t,t,t,t,t,t,t,t,t,t,t,t,t,t,t,t,f,f,f,f,f,f,f,f,f,f,f,f,f,f,f,f,f,f,f,f,f,f,f,f,f,f,f,f,f,f,f,f,f,f,f,f,f,f]) true false
def f150_ : Array Bool := (fun t f => #[t,t,t,t,t,t,t,t,t,t,t,t,t,t,t,t,t,t,t,t,t,t,t,t,t,t,t,t,t,t,t,t,t,t,t,t,t,t,t,t,t,t,t,t,t,t,t,t,f,f,f,f,f,f,f,f,f,f,f,f,f,f,f,f,f,f,f,f,f,f,f,f,f,f,f,f,f,f,f,f,f,f,f,f,f]) true false
def f151_ : Array Bool := (fun t f => #[t,t,t,t,t,t,t,t,t,t,t,t,t,t,t,t,t,t,t,t,t,t,t,t,t,t,t,t,t,t,t,t,t,t,t,t,t,t,t,t,t,t,t,t,t,t,t,t,t,f,f,f,f,f,f,f,f,f,f,f,f,f,f,f,f,f,f,f,f,f,f,f,f,f,f,f,f,f,f,f,f,f,f,f,f]) true false
def f152_ : Array Bool := (fun t f => #[t,t,t,t,t,t,t,t,t,t,t,t,t,t,t,t,t,t,t,t,t,t,t,t,t,t,t,t,t,t,t,t,t,t,t,t,t,t,t,t,t,t,t,t,t,t,t,t,t,t,f,f,f,f,f,f,f,f,f,f,f,f,f,f,f,f,f,f,f,f,f,f,f,f,f,f,f,f,f,f,f,f,f,f,f]) true false
def f153_ : Array Bool := (fun t f => #[t,t,t,t,t,t,t,t,t,t,t,t,t,t,t,t,t,t,t,t,t,t,t,t,t,t,t,t,t,t,t,t,t,t,t,t,t,t,t,t,t,t,t,t,t,t,t,t,t,t,t,f,f,f,f,f,f,f,f,f,f,f,f,f,f,f,f,f,f,f,f,f,f,f,f,f,f,f,f,f,f,f,f,f,f]) true false
def f154_ : Array Bool := (fun t f => #[t,t,t,t,t,t,t,t,t,t,t,t,t,t,t,t,t,t,t,t,t,t,t,t,t,t,t,t,t,t,t,t,t,t,t,t,t,t,t,t,t,t,t,t,t,t,t,t,t,t,t,t,f,f,f,f,f,f,f,f,f,f,f,f,f,f,f,f,f,f,f,f,f,f,f,f,f,f,f,f,f,f,f,f,f]) true false
def f155_ : Array Bool := (fun t f => #[t,t,t,t,t,t,t,t,t,t,t,t,t,t,t,t,t,t,t,t,t,t,t,t,t,t,t,t,t,t,t,t,t,t,t,t,t,t,t,t,t,t,t,t,t,t,t,t,t,t,t,t,t,f,f,f,f,f,f,f,f,f,f,f,f,f,f,f,f,f,f,f,f,f,f,f,f,f,f,f,f,f,f,f,f]) true false
def f156_ : Array Bool := (fun t f => #[t,t,t,t,t,t,t,t,t,t,t,t,t,t,t,t,t,t,t,t,t,t,t,t,t,t,t,t,t,t,t,t,t,t,t,t,t,t,t,t,t,t,t,t,t,t,t,t,t,t,t,t,t,t,f,f,f,f,f,f,f,f,f,f,f,f,f,f,f,f,f,f,f,f,f,f,f,f,f,f,f,f,f,f,f]) true false
def f157_ : Array Bool := (fun t f => #[t,t,t,t,t,t,t,t,t,t,t,t,t,t,t,t,t,t,t,t,t,t,t,t,t,t,t,t,t,t,t,t,t,t,t,t,t,t,t,t,t,t,t,t,t,t,t,t,t,t,t,t,t,t,t,f,f,f,f,f,f,f,f,f,f,f,f,f,f,f,f,f,f,f,f,f,f,f,f,f,f,f,f,f,f]) true false
def f158_ : Array Bool := (fun t f => #[t,t,t,t,t,t,t,t,t,t,t,t,t,t,t,t,t,t,t,t,t,t,t,t,t,t,t,t,t,t,t,t,t,t,t,t,t,t,t,t,t,t,t,t,t,t,t,t,t,t,t,t,t,t,t,t,f,f,f,f,f,f,f,f,f,f,f,f,f,f,f,f,f,f,f,f,f,f,f,f,f,f,f,f,f]) true false
def f159_ : Array Bool := (fun t f => #[t,t,t,t,t,t,t,t,t,t,t,t,t,t,t,t,t,t,t,t,t,t,t,t,t,t,t,t,t,t,t,t,t,t,t,t,t,t,t,t,t,t,t,t,t,t,t,t,t,t,t,t,t,t,t,t,t,f,f,f,f,f,f,f,f,f,f,f,f,f,f,f,f,f,f,f,f,f,f,f,f,f,f,f,f]) true false
def f160_ : Array Bool := (fun t f => #[t,t,t,t,t,t,t,t,t,t,t,t,t,t,t,t,t,t,t,t,t,t,t,t,t,t,t,t,t,t,t,t,t,t,t,t,t,t,t,t,t,t,t,t,t,t,t,t,t,t,t,t,t,t,t,t,t,t,f,f,f,f,f,f,f,f,f,f,f,f,f,f,f,f,f,f,f,f,f,f,f,f,f,f,f]) true false
def f161_ : Array Bool := (fun t f => #[t,t,t,t,t,t,t,t,t,t,t,t,t,t,t,t,t,t,t,t,t,t,t,t,t,t,t,t,t,t,t,t,t,t,t,t,t,t,t,t,t,t,t,t,t,t,t,t,t,t,t,t,t,t,t,t,t,t,t,f,f,f,f,f,f,f,f,f,f,f,f,f,f,f,f,f,f,f,f,f,f,f,f,f,f]) true false
def f162_ : Array Bool := (fun t f => #[t,t,t,t,t,t,t,t,t,t,t,t,t,t,t,t,t,t,t,t,t,t,t,t,t,t,t,t,t,t,t,t,t,t,t,t,t,t,t,t,t,t,t,t,t,t,t,t,t,t,t,t,t,t,t,t,t,t,t,t,f,f,f,f,f,f,f,f,f,f,f,f,f,f,f,f,f,f,f,f,f,f,f,f,f]) true false
def f163_ : Array Bool := (fun t f => #[t,t,t,t,t,t,t,t,t,t,t,t,t,t,t,t,t,t,t,t,t,t,t,t,t,t,t,t,t,t,t,t,t,t,t,t,t,t,t,t,t,t,t,t,t,t,t,t,t,t,t,t,t,t,t,t,t,t,t,t,t,f,f,f,f,f,f,f,f,f,f,f,f,f,f,f,f,f,f,f,f,f,f,f,f]) true false
def f164_ : Array Bool := (fun t f => #[t,t,t,t,t,t,t,t,t,t,t,t,t,t,t,t,t,t,t,t,t,t,t,t,t,t,t,t,t,t,t,t,t,t,t,t,t,t,t,t,t,t,t,t,t,t,t,t,t,t,t,t,t,t,t,t,t,t,t,t,t,t,f,f,f,f,f,f,f,f,f,f,f,f,f,f,f,f,f,f,f,f,f,f,f]) true false
def f165_ : Array Bool := (fun t f => #[t,t,t,t,t,t,t,t,t,t,t,t,t,t,t,t,t,t,t,t,t,t,t,t,t,t,t,t,t,t,t,t,t,t,t,t,t,t,t,t,t,t,t,t,t,t,t,t,t,t,t,t,t,t,t,t,t,t,t,t,t,t,t,f,f,f,f,f,f,f,f,f,f,f,f,f,f,f,f,f,f,f,f,f,f]) true false
def f166_ : Array Bool := (fun t f => #[t,t,t,t,t,t,t,t,t,t,t,t,t,t,t,t,t,t,t,t,t,t,t,t,t,t,t,t,t,t,t,t,t,t,t,t,t,t,t,t,t,t,t,t,t,t,t,t,t,t,t,t,t,t,t,t,t,t,t,t,t,t,t,t,f,f,f,f,f,f,f,f,f,f,f,f,f,f,f,f,f,f,f,f,f]) true false
def f167_ : Array Bool := (fun t f => #[t,t,t,t,t,t,t,t,t,t,t,t,t,t,t,t,t,t,t,t,t,t,t,t,t,t,t,t,t,t,t,t,t,t,t,t,t,t,t,t,t,t,t,t,t,t,t,t,t,t,t,t,t,t,t,t,t,t,t,t,t,t,t,t,t,f,f,f,f,f,f,f,f,f,f,f,f,f,f,f,f,f,f,f,f]) true false
def f168_ : Array Bool := (fun t f => #[t,t,t,t,t,t,t,t,t,t,t,t,t,t,t,t,t,t,t,t,t,t,t,t,t,t,t,t,t,t,t,t,t,t,t,t,t,t,t,t,t,t,t,t,t,t,t,t,t,t,t,t,t,t,t,t,t,t,t,t,t,t,t,t,t,t,f,f,f,f,f,f,f,f,f,f,f,f,f,f,f,f,f,f,f]) true false
def f169_ : Array Bool := (fun t f => #[t,t,t,t,t,t,t,t,t,t,t,t,t,t,t,t,t,t,t,t,t,t,t,t,t,t,t,t,t,t,t,t,t,t,t,t,t,t,t,t,t,t,t,t,t,t,t,t,t,t,t,t,t,t,t,t,t,t,t,t,t,t,t,t,t,t,t,f,f,f,f,f,f,f,f,f,f,f,f,f,f,f,f,f,f]) true false
def f170_ : Array Bool := (fun t f => #[t,t,t,t,t,t,t,t,t,t,t,t,t,t,t,t,t,t,t,t,t,t,t,t,t,t,t,t,t,t,t,t,t,t,t,t,t,t,t,t,t,t,t,t,t,t,t,t,t,t,t,t,t,t,t,t,t,t,t,t,t,t,t,t,t,t,t,t,f,f,f,f,f,f,f,f,f,f,f,f,f,f,f,f,f]) true false
def f171_ : Array Bool := (fun t f => #[t,t,t,t,t,t,t,t,t,t,t,t,t,t,t,t,t,t,t,t,t,t,t,t,t,t,t,t,t,t,t,t,t,t,t,t,t,t,t,t,t,t,t,t,t,t,t,t,t,t,t,t,t,t,t,t,t,t,t,t,t,t,t,t,t,t,t,t,t,f,f,f,f,f,f,f,f,f,f,f,f,f,f,f,f]) true false
def f172_ : Array Bool := (fun t f => #[t,t,t,t,t,t,t,t,t,t,t,t,t,t,t,t,t,t,t,t,t,t,t,t,t,t,t,t,t,t,t,t,t,t,t,t,t,t,t,t,t,t,t,t,t,t,t,t,t,t,t,t,t,t,t,t,t,t,t,t,t,t,t,t,t,t,t,t,t,t,f,f,f,f,f,f,f,f,f,f,f,f,f,f,f]) true false
def f173_ : Array Bool := (fun t f => #[t,t,t,t,t,t,t,t,t,t,t,t,t,t,t,t,t,t,t,t,t,t,t,t,t,t,t,t,t,t,t,t,t,t,t,t,t,t,t,t,t,t,t,t,t,t,t,t,t,t,t,t,t,t,t,t,t,t,t,t,t,t,t,t,t,t,t,t,t,t,t,f,f,f,f,f,f,f,f,f,f,f,f,f,f]) true false
def f174_ : Array Bool := (fun t f => #[t,t,t,t,t,t,t,t,t,t,t,t,t,t,t,t,t,t,t,t,t,t,t,t,t,t,t,t,t,t,t,t,t,t,t,t,t,t,t,t,t,t,t,t,t,t,t,t,t,t,t,t,t,t,t,t,t,t,t,t,t,t,t,t,t,t,t,t,t,t,t,t,f,f,f,f,f,f,f,f,f,f,f,f,f]) true false
def f175_ : Array Bool := (fun t f => #[t,t,t,t,t,t,t,t,t,t,t,t,t,t,t,t,t,t,t,t,t,t,t,t,t,t,t,t,t,t,t,t,t,t,t,t,t,t,t,t,t,t,t,t,t,t,t,t,t,t,t,t,t,t,t,t,t,t,t,t,t,t,t,t,t,t,t,t,t,t,t,t,t,f,f,f,f,f,f,f,f,f,f,f,f]) true false
def f176_ : Array Bool := (fun t f => #[t,t,t,t,t,t,t,t,t,t,t,t,t,t,t,t,t,t,t,t,t,t,t,t,t,t,t,t,t,t,t,t,t,t,t,t,t,t,t,t,t,t,t,t,t,t,t,t,t,t,t,t,t,t,t,t,t,t,t,t,t,t,t,t,t,t,t,t,t,t,t,t,t,t,f,f,f,f,f,f,f,f,f,f,f]) true false
def f177_ : Array Bool := (fun t f => #[t,t,t,t,t,t,t,t,t,t,t,t,t,t,t,t,t,t,t,t,t,t,t,t,t,t,t,t,t,t,t,t,t,t,t,t,t,t,t,t,t,t,t,t,t,t,t,t,t,t,t,t,t,t,t,t,t,t,t,t,t,t,t,t,t,t,t,t,t,t,t,t,t,t,t,f,f,f,f,f,f,f,f,f,f]) true false
def f178_ : Array Bool := (fun t f => #[t,t,t,t,t,t,t,t,t,t,t,t,t,t,t,t,t,t,t,t,t,t,t,t,t,t,t,t,t,t,t,t,t,t,t,t,t,t,t,t,t,t,t,t,t,t,t,t,t,t,t,t,t,t,t,t,t,t,t,t,t,t,t,t,t,t,t,t,t,t,t,t,t,t,t,t,f,f,f,f,f,f,f,f,f]) true false
def f179_ : Array Bool := (fun t f => #[t,t,t,t,t,t,t,t,t,t,t,t,t,t,t,t,t,t,t,t,t,t,t,t,t,t,t,t,t,t,t,t,t,t,t,t,t,t,t,t,t,t,t,t,t,t,t,t,t,t,t,t,t,t,t,t,t,t,t,t,t,t,t,t,t,t,t,t,t,t,t,t,t,t,t,t,t,f,f,f,f,f,f,f,f]) true false
def f180_ : Array Bool := (fun t f => #[t,t,t,t,t,t,t,t,t,t,t,t,t,t,t,t,t,t,t,t,t,t,t,t,t,t,t,t,t,t,t,t,t,t,t,t,t,t,t,t,t,t,t,t,t,t,t,t,t,t,t,t,t,t,t,t,t,t,t,t,t,t,t,t,t,t,t,t,t,t,t,t,t,t,t,t,t,t,f,f,f,f,f,f,f]) true false
def f181_ : Array Bool := (fun t f => #[t,t,t,t,t,t,t,t,t,t,t,t,t,t,t,t,t,t,t,t,t,t,t,t,t,t,t,t,t,t,t,t,t,t,t,t,t,t,t,t,t,t,t,t,t,t,t,t,t,t,t,t,t,t,t,t,t,t,t,t,t,t,t,t,t,t,t,t,t,t,t,t,t,t,t,t,t,t,t,f,f,f,f,f,f]) true false
def f182_ : Array Bool := (fun t f => #[t,t,t,t,t,t,t,t,t,t,t,t,t,t,t,t,t,t,t,t,t,t,t,t,t,t,t,t,t,t,t,t,t,t,t,t,t,t,t,t,t,t,t,t,t,t,t,t,t,t,t,t,t,t,t,t,t,t,t,t,t,t,t,t,t,t,t,t,t,t,t,t,t,t,t,t,t,t,t,t,f,f,f,f,f]) true false
def f183_ : Array Bool := (fun t f => #[t,t,t,t,t,t,t,t,t,t,t,t,t,t,t,t,t,t,t,t,t,t,t,t,t,t,t,t,t,t,t,t,t,t,t,t,t,t,t,t,t,t,t,t,t,t,t,t,t,t,t,t,t,t,t,t,t,t,t,t,t,t,t,t,t,t,t,t,t,t,t,t,t,t,t,t,t,t,t,t,f,t,f,f,f]) true false
def f184_ : Array Bool := (fun t f => #[t,t,t,t,t,t,t,t,t,t,t,t,t,t,t,t,t,t,t,t,t,t,t,t,t,t,t,t,t,t,t,t,t,t,t,t,t,t,t,t,t,t,t,t,t,t,t,t,t,t,t,t,t,t,t,t,t,t,t,t,t,t,t,t,t,t,t,t,t,t,t,t,t,t,t,t,t,t,t,t,t,t,f,f,f]) true false
def f185_ : Array Bool := (fun t f => #[t,t,t,t,t,t,t,t,t,t,t,t,t,t,t,t,t,t,t,t,t,t,t,t,t,t,t,t,t,t,t,t,t,t,t,t,t,t,t,t,t,t,t,t,t,t,t,t,t,t,t,t,t,t,t,t,t,t,t,t,t,t,t,t,t,t,t,t,t,t,t,t,t,t,t,t,t,t,t,t,t,t,t,f,f]) true false
def f186_ : Array Bool := (fun t f => #[t,t,t,t,t,t,t,t,t,t,t,t,t,t,t,t,t,t,t,t,t,t,t,t,t,t,t,t,t,t,t,t,t,t,t,t,t,t,t,t,t,t,t,t,t,t,t,t,t,t,t,t,t,t,t,t,t,t,t,t,t,t,t,t,t,t,t,t,t,t,t,t,t,t,t,t,t,t,t,t,t,t,t,t,f]) true false
def f187_ : Array Bool := (fun t f => #[t,t,t,t,t,t,t,t,t,t,t,t,t,t,t,t,t,t,t,t,t,t,t,t,t,t,t,t,t,t,t,t,t,t,t,t,t,t,t,t,t,t,t,t,t,t,t,t,t,t,t,t,t,t,t,t,t,t,t,t,t,t,t,t,t,t,t,t,t,t,t,t,t,t,t,t,t,t,t,t,t,t,t,t,t]) true false
def f188_ : Array Bool := (fun t f => #[f,f,f,f,f,f,f,f,f,f,f,f,f,f,f,f,f,f,f,f,f,f,f,f,f,f,f,f,f,f,f,f]) true false
def f189_ : Array Bool := (fun t f => #[t,f,f,f,f,f,f,f,f,f,f,f,f,f,f,f,f,f,f,f,f,f,f,f,f,f,f,f,f,f,f,f]) true false
def f190_ : Array Bool := (fun t f => #[t,t,f,f,f,f,f,f,f,f,f,f,f,f,f,f,f,f,f,f,f,f,f,f,f,f,f,f,f,f,f,f]) true false
def f191_ : Array Bool := (fun t f => #[t,t,t,f,f,f,f,f,f,f,f,f,f,f,f,f,f,f,f,f,f,f,f,f,f,f,f,f,f,f,f,f]) true false
def f192_ : Array Bool := (fun t f => #[t,t,t,t,f,f,f,f,f,f,f,f,f,f,f,f,f,f,f,f,f,f,f,f,f,f,f,f,f,f,f,f]) true false
def f193_ : Array Bool := (fun t f => #[t,t,t,t,t,f,f,f,f,f,f,f,f,f,f,f,f,f,f,f,f,f,f,f,f,f,f,f,f,f,f,f]) true false
def f194_ : Array Bool := (fun t f => #[t,t,t,t,t,t,f,f,f,f,f,f,f,f,f,f,f,f,f,f,f,f,f,f,f,f,f,f,f,f,f,f]) true false
def f195_ : Array Bool := (fun t f => #[t,t,t,t,t,t,t,f,f,f,f,f,f,f,f,f,f,f,f,f,f,f,f,f,f,f,f,f,f,f,f,f]) true false
def f196_ : Array Bool := (fun t f => #[t,t,t,t,t,t,t,t,f,f,f,f,f,f,f,f,f,f,f,f,f,f,f,f,f,f,f,f,f,f,f,f]) true false
def f197_ : Array Bool := (fun t f => #[t,t,t,t,t,t,t,t,t,f,f,f,f,f,f,f,f,f,f,f,f,f,f,f,f,f,f,f,f,f,f,f]) true false
def f198_ : Array Bool := (fun t f => #[t,t,t,t,t,t,t,t,t,t,f,f,f,f,f,f,f,f,f,f,f,f,f,f,f,f,f,f,f,f,f,f]) true false
def f199_ : Array Bool := (fun t f => #[t,t,t,t,t,t,t,t,t,t,t,f,f,f,f,f,f,f,f,f,f,f,f,f,f,f,f,f,f,f,f,f]) true false
def f200_ : Array Bool := (fun t f => #[t,t,t,t,t,t,t,t,t,t,t,t,f,f,f,f,f,f,f,f,f,f,f,f,f,f,f,f,f,f,f,f]) true false
def f201_ : Array Bool := (fun t f => #[t,t,t,t,t,t,t,t,t,t,t,t,t,f,f,f,f,f,f,f,f,f,f,f,f,f,f,f,f,f,f,f]) true false
def f202_ : Array Bool := (fun t f => #[t,t,t,t,t,t,t,t,t,t,t,t,t,t,f,f,f,f,f,f,f,f,f,f,f,f,f,f,f,f,f,f]) true false
def f203_ : Array Bool := (fun t f => #[t,t,t,t,t,t,t,t,t,t,t,t,t,t,t,f,f,f,f,f,f,f,f,f,f,f,f,f,f,f,f,f]) true false
def f204_ : Array Bool := (fun t f => #[t,t,t,t,t,t,t,t,t,t,t,t,t,t,t,t,f,f,f,f,f,f,f,f,f,f,f,f,f,f,f,f]) true false
def f205_ : Array Bool := (fun t f => #[t,t,t,t,t,t,t,t,t,t,t,t,t,t,t,t,t,f,f,f,f,f,f,f,f,f,f,f,f,f,f,f]) true false
def f206_ : Array Bool := (fun t f => #[t,t,t,t,t,t,t,t,t,t,t,t,t,t,t,t,t,t,f,f,f,f,f,f,f,f,f,f,f,f,f,f]) true false
def f207_ : Array Bool := (fun t f => #[t,t,t,t,t,t,t,t,t,t,t,t,t,t,t,t,t,t,t,f,f,f,f,f,f,f,f,f,f,f,f,f]) true false
def f208_ : Array Bool := (fun t f => #[t,t,t,t,t,t,t,t,t,t,t,t,t,t,t,t,t,t,t,t,f,f,f,f,f,f,f,f,f,f,f,f]) true false
def f209_ : Array Bool := (fun t f => #[t,t,t,t,t,t,t,t,t,t,t,t,t,t,t,t,t,t,t,t,t,f,f,f,f,f,f,f,f,f,f,f]) true false
def f210_ : Array Bool := (fun t f => #[t,t,t,t,t,t,t,t,t,t,t,t,t,t,t,t,t,t,t,t,t,t,f,f,f,f,f,f,f,f,f,f]) true false
def f211_ : Array Bool := (fun t f => #[t,t,t,t,t,t,t,t,t,t,t,t,t,t,t,t,t,t,t,t,t,t,t,f,f,f,f,f,f,f,f,f]) true false
def f212_ : Array Bool := (fun t f => #[t,t,t,t,t,t,t,t,t,t,t,t,t,t,t,t,t,t,t,t,t,t,t,t,f,f,f,f,f,f,f,f]) true false
def f213_ : Array Bool := (fun t f => #[t,t,t,t,t,t,t,t,t,t,t,t,t,t,t,t,t,t,t,t,t,t,t,t,t,f,f,f,f,f,f,f]) true false
def f214_ : Array Bool := (fun t f => #[t,t,t,t,t,t,t,t,t,t,t,t,t,t,t,t,t,t,t,t,t,t,t,t,t,t,f,f,f,f,f,f]) true false
def f215_ : Array Bool := (fun t f => #[t,t,t,t,t,t,t,t,t,t,t,t,t,t,t,t,t,t,t,t,t,t,t,t,t,t,t,f,f,f,f,f]) true false
def f216_ : Array Bool := (fun t f => #[t,t,t,t,t,t,t,t,t,t,t,t,t,t,t,t,t,t,t,t,t,t,t,t,t,t,t,t,f,f,f,f]) true false
def f217_ : Array Bool := (fun t f => #[t,t,t,t,t,t,t,t,t,t,t,t,t,t,t,t,t,t,t,t,t,t,t,t,t,t,t,t,t,f,f,f]) true false
def f218_ : Array Bool := (fun t f => #[t,t,t,t,t,t,t,t,t,t,t,t,t,t,t,t,t,t,t,t,t,t,t,t,t,t,t,t,t,t,f,f]) true false
def f219_ : Array Bool := (fun t f => #[t,t,t,t,t,t,t,t,t,t,t,t,t,t,t,t,t,t,t,t,t,t,t,t,t,t,t,t,t,t,t,f]) true false
def f220_ : Array Bool := (fun t f => #[t,t,t,t,t,t,t,t,t,t,t,t,t,t,t,t,t,t,t,t,t,t,t,t,t,t,t,t,t,t,t,t]) true false
def f221_ : Array Bool := (fun t f => #[f,f,f,f,f,f,f,f,f,f]) true false
def f222_ : Array Bool := (fun t f => #[t,f,f,f,f,f,f,f,f,f]) true false
def f223_ : Array Bool := (fun t f => #[t,t,f,f,f,f,f,f,f,f]) true false
def f224_ : Array Bool := (fun t f => #[t,t,t,f,f,f,f,f,f,f]) true false
def f225_ : Array Bool := (fun t f => #[t,t,t,f,t,f,f,f,f,f]) true false
def f226_ : Array Bool := (fun t f => #[t,t,t,f,t,t,f,f,f,f]) true false
def f227_ : Array Bool := (fun t f => #[t,t,t,t,t,t,f,f,f,f]) true false
def f228_ : Array Bool := (fun t f => #[t,t,t,t,t,t,t,f,f,f]) true false
def f229_ : Array Bool := (fun t f => #[t,t,t,t,t,t,t,t,f,f]) true false
def f230_ : Array Bool := (fun t f => #[t,t,t,t,t,t,t,t,t,f]) true false
def f231_ : Array Bool := (fun t f => #[t,t,t,t,t,t,t,t,t,t]) true false
def f232_ : Array Bool := (fun t f => #[t,t,t,t,f,f,f,f,f,f]) true false
def f233_ : Array Bool := (fun t f => #[t,t,t,t,f,t,f,f,f,f]) true false
def f234_ : Array Bool := (fun t f => #[t,t,t,t,f,t,t,f,f,f]) true false
def f235_ : Array Bool := (fun t f => #[t,t,t,t,t,t,t,f,f,f,f,f,f,f]) true false
def f236_ : Array Bool := (fun t f => #[t,t,t,t,t,t,t,t,f,f,f,f,f,f]) true false
def f237_ : Array Bool := (fun t f => #[t,t,t,t,t,t,t,t,t,f,f,f,f,f]) true false
def f238_ : Array Bool := (fun t f => #[t,t,t,t,t,t,t,t,t,f,t,f,f,f]) true false
def f239_ : Array Bool := (fun t f => #[f,f,f,f,f,f,f,f,f,f,f,f,f]) true false
def f240_ : Array Bool := (fun t f => #[f,t,f,f,f,f,f,f,f,f,f,f,f]) true false
def f241_ : Array Bool := (fun t f => #[f,t,t,f,f,f,f,f,f,f,f,f,f]) true false
def f242_ : Array Bool := (fun t f => #[f,t,t,t,f,f,f,f,f,f,f,f,f]) true false
def f243_ : Array Bool := (fun t f => #[f,t,t,t,f,f,f,f,t,f,f,f,f]) true false
def f244_ : Array Bool := (fun t f => #[f,t,t,t,f,f,f,f,t,t,f,f,f]) true false
def f245_ : Array Bool := (fun t f => #[f,t,t,t,f,f,f,f,t,t,t,f,f]) true false
def f246_ : Array Bool := (fun t f => #[f,t,t,t,f,t,f,f,t,t,t,f,f]) true false
def f247_ : Array Bool := (fun t f => #[t,t,t,t,t,t,t,f,t,t,t,f,f]) true false
def f248_ : Array Bool := (fun t f => #[t,t,t,t,f,t,f,f,t,t,t,f,f]) true false
def f249_ : Array Bool := (fun t f => #[f,t,t,t,f,t,t,f,t,t,t,f,f]) true false
def f250_ : Array Bool := (fun t f => #[t,t,t,t,t,t,f,f,t,t,t,f,f]) true false
def f251_ : Array Bool := (fun t f => #[t,t,t,t,f,t,t,f,t,t,t,f,f]) true false
def f252_ : Array Bool := (fun t f => #[t,t,t,t,t,t,t,t,t,t,t,f,f]) true false
def f253_ : Array Bool := (fun t f => #[t,t,t,t,t,t,t,t,t,t,t,t,f]) true false
def f254_ : Array Bool := (fun t f => #[t,t,t,t,t,t,t,t,t,t,t,t,t]) true false
def f255_ : Array Bool := (fun t f => #[f,f,f,f,f,f,f,f,f,f,f,f,f,f,f,f,f,f,f,f,f,f,f,f]) true false
def f256_ : Array Bool := (fun t f => #[t,f,f,f,f,f,f,f,f,f,f,f,f,f,f,f,f,f,f,f,f,f,f,f]) true false
def f257_ : Array Bool := (fun t f => #[t,t,f,f,f,f,f,f,f,f,f,f,f,f,f,f,f,f,f,f,f,f,f,f]) true false
def f258_ : Array Bool := (fun t f => #[t,t,t,f,f,f,f,f,f,f,f,f,f,f,f,f,f,f,f,f,f,f,f,f]) true false
def f259_ : Array Bool := (fun t f => #[t,t,t,t,f,f,f,f,f,f,f,f,f,f,f,f,f,f,f,f,f,f,f,f]) true false
def f260_ : Array Bool := (fun t f => #[t,t,t,t,t,f,f,f,f,f,f,f,f,f,f,f,f,f,f,f,f,f,f,f]) true false
def f261_ : Array Bool := (fun t f => #[t,t,t,t,t,t,f,f,f,f,f,f,f,f,f,f,f,f,f,f,f,f,f,f]) true false
def f262_ : Array Bool := (fun t f => #[t,t,t,t,t,t,t,f,f,f,f,f,f,f,f,f,f,f,f,f,f,f,f,f]) true false
def f263_ : Array Bool := (fun t f => #[t,t,t,t,t,t,t,t,f,f,f,f,f,f,f,f,f,f,f,f,f,f,f,f]) true false
def f264_ : Array Bool := (fun t f => #[t,t,t,t,t,t,t,t,t,f,f,f,f,f,f,f,f,f,f,f,f,f,f,f]) true false
def f265_ : Array Bool := (fun t f => #[t,t,t,t,t,t,t,t,t,t,f,f,f,f,f,f,f,f,f,f,f,f,f,f]) true false
def f266_ : Array Bool := (fun t f => #[t,t,t,t,t,t,t,t,t,t,t,f,f,f,f,f,f,f,f,f,f,f,f,f]) true false
def f267_ : Array Bool := (fun t f => #[t,t,t,t,t,t,t,t,t,t,t,t,f,f,f,f,f,f,f,f,f,f,f,f]) true false
def f268_ : Array Bool := (fun t f => #[t,t,t,t,t,t,t,t,t,t,t,t,t,f,f,f,f,f,f,f,f,f,f,f]) true false
def f269_ : Array Bool := (fun t f => #[t,t,t,t,t,t,t,t,t,t,t,t,t,f,t,f,f,f,f,f,f,f,f,f]) true false
def f270_ : Array Bool := (fun t f => #[t,t,t,t,t,t,t,t,t,t,t,t,t,f,t,t,f,f,f,f,f,f,f,f]) true false
def f271_ : Array Bool := (fun t f => #[t,t,t,t,t,t,t,t,t,t,t,t,t,f,t,t,t,f,f,f,f,f,f,f]) true false
def f272_ : Array Bool := (fun t f => #[t,t,t,t,t,t,t,t,t,t,t,t,t,f,t,t,t,t,f,f,f,f,f,f]) true false
def f273_ : Array Bool := (fun t f => #[t,t,t,t,t,t,t,t,t,t,t,t,t,f,t,t,t,t,t,f,f,f,f,f]) true false
def f274_ : Array Bool := (fun t f => #[t,t,t,t,t,t,t,t,t,t,t,t,t,t,t,t,t,t,t,f,f,f,f,f]) true false
def f275_ : Array Bool := (fun t f => #[t,t,t,t,t,t,t,t,t,t,t,t,t,t,t,t,t,t,t,t,f,f,f,f]) true false
def f276_ : Array Bool := (fun t f => #[t,t,t,t,t,t,t,t,t,t,t,t,t,t,t,t,t,t,t,t,t,f,f,f]) true false
def f277_ : Array Bool := (fun t f => #[t,t,t,t,t,t,t,t,t,t,t,t,t,t,t,t,t,t,t,t,t,t,f,f]) true false
def f278_ : Array Bool := (fun t f => #[t,t,t,t,t,t,t,t,t,t,t,t,t,t,t,t,t,t,t,t,t,t,t,f]) true false
def f279_ : Array Bool := (fun t f => #[t,t,t,t,t,t,t,t,t,t,t,t,t,t,t,t,t,t,t,t,t,t,t,t]) true false
def f280_ : Array Bool := (fun t f => #[t,t,t,t,t,t,t,f,t,f,f,f,f,f]) true false
def f281_ : Array Bool := (fun t f => #[t,t,f,f,f,t,f,f,f,f,f,f,f,f,f,f]) true false
def f282_ : Array Bool := (fun t f => #[t,t,f,f,f,t,f,f,f,f,t,f,f,f,f,f]) true false
def f283_ : Array Bool := (fun t f => #[t,t,t,f,f,t,f,f,f,f,t,f,f,f,f,f]) true false
def f284_ : Array Bool := (fun t f => #[t,t,t,f,f,t,t,f,f,f,t,f,f,f,f,f]) true false
def f285_ : Array Bool := (fun t f => #[t,t,t,f,f,t,t,f,f,f,t,t,f,f,f,f]) true false
def f286_ : Array Bool := (fun t f => #[t,t,t,t,f,t,t,f,f,f,t,t,f,f,f,f]) true false
def f287_ : Array Bool := (fun t f => #[t,t,t,t,t,t,t,f,f,f,t,t,f,f,f,f]) true false
def f288_ : Array Bool := (fun t f => #[t,t,t,t,t,t,t,t,f,f,t,t,f,f,f,f]) true false
def f289_ : Array Bool := (fun t f => #[t,t,t,t,t,t,t,t,t,f,t,t,f,f,f,f]) true false
def f290_ : Array Bool := (fun t f => #[t,f,t,f,f,f,f,f,f,f]) true false
def f291_ : Array Bool := (fun t f => #[t,f,t,t,f,f,f,f,f,f]) true false
def f292_ : Array Bool := (fun t f => #[t,t,t,t,t,f,f,f,f,f]) true false
def f293_ : Array Bool := (fun t f => #[t,t,f,t,f,f,f,f,f,f,f]) true false
def f294_ : Array Bool := (fun t f => #[t,t,f,t,t,f,f,f,f,f,f]) true false
def f295_ : Array Bool := (fun t f => #[t,t,f,t,t,t,f,f,f,f,f]) true false
def f296_ : Array Bool := (fun t f => #[t,t,f,t,t,t,t,f,f,f,f]) true false
def f297_ : Array Bool := (fun t f => #[t,t,t,t,t,t,t,f,f,f,f]) true false
def f298_ : Array Bool := (fun t f => #[t,t,f,t,t,t,t,t,f,f,f]) true false
def f299_ : Array Bool := (fun t f => #[t,t,f,t,t,t,t,t,t,f,f]) true false
theorem bx3_ {w : World} {g : Nat} {t : TypeId} {a b c : Value} (h : w.heap[g]? = some (.cells #[a, b, c] t (0, 0))) : w.cell? ⟨g, 0, none⟩ = some a ∧ w.cell? ⟨g, 1, none⟩ = some b ∧ w.cell? ⟨g, 2, none⟩ = some c ∧ w.frozen? ⟨g, 0, none⟩ = false ∧ w.frozen? ⟨g, 1, none⟩ = false ∧ w.frozen? ⟨g, 2, none⟩ = false := ⟨(blk_cell h 0).trans rfl, (blk_cell h 1).trans rfl, (blk_cell h 2).trans rfl, blk_frozen h 0, blk_frozen h 1, blk_frozen h 2⟩
end Go.Proofs.YtglcpghappepaaaGreatDoor.G
end
