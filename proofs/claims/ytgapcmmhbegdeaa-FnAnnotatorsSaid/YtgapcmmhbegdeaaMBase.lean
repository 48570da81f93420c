/- What the printed parts use beside the words: readings, rows of one's own, phrases of tactics. No condition. -/
import Derived.Test.YtgapcmmhbegdeaaWAll
import Derived.SizedLaws
import Derived.Deep.Slices
import Derived.Lib.SmallJoins
import Derived.Deep.Strs
import Derived.Lib.SliceRun
import Derived.Maps.Own
import Derived.Maps.OwnOps
import Derived.Maps.Views
import Derived.Laws.Strings
import Derived.RegionTactic
import Derived.BigRegion
import Derived.WalkKit
section
/- What comes in as an argument, read as a value of the print's kinds: whole numbers, bools, strings, structs of two to four one-cell fields, slices of any of these. No condition beyond what a row's reading gives. -/
namespace Go.Proofs.YtgapcmmhbegdeaaW.PrintWords
open Go.ChangeShapes Go.WideShapes Go.RowKit Go.Joins Go.Deep

/-- What reads as data at type t reads as a value of the kind k of which G holds. -/
def Rd {α : Type} (P : Program) (t : TypeId) (k : Kd α) (G : α → Prop) : Prop :=
  ∀ (H : Type) (enc : TypeId × Value → H) (w : World) (base : Nat) (spare : Nat → Bool) (held : Bool) (fuel : Nat) (cs : List Value) (x : DataW H × List MemPlace),
    DataW.trod enc P w base spare held fuel t cs = some x → (∀ n, n ∈ x.1.weights P t → n ≤ reachBytes) → ∃ a, k.K w a cs ∧ G a

theorem rd_int {P : Program} {t : TypeId} (k : IntKind) (ht : P.underlying t = some (.int k)) : Rd P t (Kd.int k) (fun n => (Lit.int k n).wf = true) := by
  intro H enc w base spare held fuel cs x h _
  obtain ⟨n, rfl, rfl, hw⟩ := DataW.trod_int ht h
  exact ⟨n, rfl, hw⟩
/-- A list out of its elements. -/
theorem list_of {α : Type} {p : Nat → α → Prop} : ∀ n, (∀ i, i < n → ∃ a, p i a) → ∃ xs : List α, xs.length = n ∧ ∀ i a, xs[i]? = some a → p i a
  | 0, _ => ⟨[], rfl, fun i a h => by simp at h⟩
  | n + 1, h => by
    obtain ⟨xs, hl, hx⟩ := list_of n (fun i hi => h i (by omega))
    obtain ⟨a, ha⟩ := h n (by omega)
    refine ⟨xs ++ [a], by simp [hl], fun i b hb => ?_⟩
    rcases Nat.lt_trichotomy i n with hi | hi | hi
    · rw [List.getElem?_append_left (by omega)] at hb
      exact hx i b hb
    · subst hi
      rw [List.getElem?_append_right (by omega), hl] at hb
      simp at hb
      subst hb
      exact ha
    · rw [List.getElem?_append_right (by omega)] at hb
      rw [List.getElem?_eq_none (by simp; omega)] at hb
      cases hb

theorem weights_all {H : Type} {P : Program} {e : TypeId} : ∀ {ds : List (DataW H)} {d : DataW H}, d ∈ ds → ∀ n, n ∈ d.weights P e → n ∈ DataW.weightsAll P e ds
  | d0 :: ds, d, hd, n, hn => by
    simp only [DataW.weightsAll, List.mem_append]
    rcases List.mem_cons.1 hd with rfl | hd
    · exact .inl hn
    · exact .inr (weights_all hd n hn)

theorem rd_slice {α : Type} {P : Program} {t e : TypeId} {d : Kd α} {G : α → Prop} (B : Nat) (ht : P.underlying t = some (.slice e)) (hc : P.cellsOf e = d.sz) (hB : P.bytesOf e = B) (he : Rd P e d G) :
    Rd P t (Kd.slice e d) (fun l => (∀ a, a ∈ l → G a) ∧ l.length * B ≤ 140737488351232) := by
  intro H enc w base spare held fuel cs x h hz
  rcases Go.Deep.open_slice ht h with ⟨rfl, rfl⟩ | ⟨a, len, cap, m, n, D, Pl, rfl, hb, hl, hm, hmm, rfl, hx⟩
  · exact ⟨[], ⟨none, 0, rfl, Nat.le_refl _, rfl, by simp, fun hp => absurd hp (by simp)⟩, by simp, by simp⟩
  · have hlm : len ≤ m := by rw [hmm]; split <;> omega
    have hel : ∀ i, i < len → ∃ v : α, (∃ c, c.length = d.sz ∧ d.K w v c ∧ ∀ j u, c[j]? = some u → w.cell? (a.add (i * d.sz + j)) = some u) ∧ G v := by
      intro i hi
      obtain ⟨cs', h1, h2⟩ := hx i (by omega)
      obtain ⟨v, hK, hG⟩ := he H enc w base spare held n cs' (D i, Pl i) h2 (fun q hq => hz q (by
        simp only [DataW.weights, ht, List.mem_cons, List.mem_append]
        exact .inr (.inl (weights_all (List.mem_map.2 ⟨i, List.mem_range.2 hi, rfl⟩) q hq))))
      obtain ⟨_, hlen, hcell⟩ := World.cells?_some h1
      refine ⟨v, ⟨cs', by rw [hlen, hc], hK, fun j u hu => ?_⟩, hG⟩
      have hj : j < cs'.length := (List.getElem?_eq_some_iff.1 hu).1
      rw [← hu, ← hcell j (by omega), hc, Go.Deep.add_add]
    obtain ⟨xs, hxl, hxp⟩ := list_of len hel
    have hbig : len ≤ 9223372036854775807 := by simp only [maxLen] at hm; omega
    refine ⟨xs, ⟨some a, cap, by rw [hxl], by omega, rfl, by omega, fun _ => ⟨a, rfl, fun j p hj => (hxp j p hj).1⟩⟩, fun v hv => ?_, ?_⟩
    · obtain ⟨i, hi⟩ := List.mem_iff_getElem?.1 hv
      exact (hxp i v hi).2
    · have := hz ((((List.range len).map D).length + ((List.range (m - len)).map fun j => D (len + j)).length) * B) (by
        simp only [DataW.weights, ht, hB, List.mem_cons]
        exact .inl trivial)
      have h2 : len * B ≤ (((List.range len).map D).length + ((List.range (m - len)).map fun j => D (len + j)).length) * B := Nat.mul_le_mul_right _ (by simp)
      rw [hxl]
      exact Nat.le_trans h2 this

/-- An argument's weights are among the row's. -/
theorem arg_sized {H : Type} {P : Program} {ts : List TypeId} {ds : List (DataW H)} (hsz : (DataW.weightsEach P ts ds).all (· ≤ reachBytes) = true) {j : Nat} {t : TypeId} {d : DataW H} (ht : ts[j]? = some t) (hd : ds[j]? = some d) : ∀ n, n ∈ d.weights P t → n ≤ reachBytes :=
  fun n hn => by simpa using List.all_eq_true.1 hsz n (DataW.weights_mem_each ht hd n hn)

/-- A slice that came in. -/
theorem open_row {α : Type} {P : Program} {t e : TypeId} {d : Kd α} {G : List α → Prop} (hR : Rd P t (Kd.slice e d) G) {H : Type} {enc : TypeId × Value → H} {w : World} {base : Nat} {spare : Nat → Bool} {held : Bool} {A : Option Addr} {len cap : Nat} {x : DataW H} {ps : List MemPlace}
    (h : DataW.Trod enc P w base spare held t (.slice A len cap) x ps) (hz : ∀ n, n ∈ x.weights P t → n ≤ reachBytes) :
    ∃ l : List α, len = l.length ∧ l.length ≤ cap ∧ d.C w A l.length l ∧ G l := by
  obtain ⟨fuel, hf⟩ := h
  obtain ⟨l, ⟨A', c, he, hl, hC⟩, hG⟩ := hR H enc w base spare held fuel _ _ hf hz
  simp only [Value.cells, List.cons.injEq, Value.slice.injEq, and_true] at he
  obtain ⟨rfl, rfl, rfl⟩ := he
  exact ⟨l, rfl, hl, hC, hG⟩
/-! ### texts held against each other -/
theorem less_total : ∀ a b : List UInt8, (Op.bytesLess a b || a == b) = !(Op.bytesLess b a)
  | [], [] => rfl
  | [], _ :: _ => rfl
  | _ :: _, [] => rfl
  | a :: x, b :: y => by
    have ih := less_total x y
    simp only [Op.bytesLess, List.cons_beq_cons]
    rcases Nat.lt_trichotomy a.toNat b.toNat with h | h | h
    · have h1 : (decide (a < b)) = true := decide_eq_true (UInt8.lt_iff_toNat_lt.2 h)
      have h2 : (decide (b < a)) = false := decide_eq_false (fun q => by have := UInt8.lt_iff_toNat_lt.1 q; omega)
      have h3 : (b == a) = false := beq_eq_false_iff_ne.2 (fun q => by subst q; omega)
      simp [h1, h2, h3]
    · obtain rfl : a = b := UInt8.toNat_inj.1 h
      simp [ih]
    · have h1 : (decide (a < b)) = false := decide_eq_false (fun q => by have := UInt8.lt_iff_toNat_lt.1 q; omega)
      have h2 : (decide (b < a)) = true := decide_eq_true (UInt8.lt_iff_toNat_lt.2 h)
      have h3 : (a == b) = false := beq_eq_false_iff_ne.2 (fun q => by subst q; omega)
      simp [h1, h2, h3]
theorem str_geq (t : TypeId) (a b : ByteArray) : binOp .geq t (.string a) (.string b) = pure (.bool !(Op.bytesLess a.toList b.toList)) := by simp [binOp, Op.stringOp]
theorem str_gtr (t : TypeId) (a b : ByteArray) : binOp .gtr t (.string a) (.string b) = pure (.bool (Op.bytesLess b.toList a.toList)) := by
  have : binOp .gtr t (.string a) (.string b) = pure (.bool !(Op.bytesLess a.toList b.toList || a.toList == b.toList)) := by simp [binOp, Op.stringOp]
  rw [this, less_total, Bool.not_not]
theorem str_leq (t : TypeId) (a b : ByteArray) : binOp .leq t (.string a) (.string b) = pure (.bool !(Op.bytesLess b.toList a.toList)) := by
  have : binOp .leq t (.string a) (.string b) = pure (.bool (Op.bytesLess a.toList b.toList || a.toList == b.toList)) := by simp [binOp, Op.stringOp]
  rw [this, less_total]

/-! ### what calls through function values come to -/
/-- A call of a function that has a body enters it. -/
theorem goes_in {P : Program} {f : FuncId} {fn : Func} {c : Code} (hf : P.funcs[f]? = some fn) (hname : (fn.name == "runtime.NumGoroutine") = false) (hb : fn.body = some c) : ∀ (args : Array Value) (w : World), (callFunc f args).run P w = .ok (.enter f args) w := by
  intro args w
  have h1 : fn.name ≠ "runtime.NumGoroutine" := by simpa using hname
  simp [callFunc, hf, h1, hb, mark]
/-- The first place at which p holds, or -1. -/
def idxOf {α : Type} (p : α → Bool) (l : List α) : Int := match l.findIdx? p with | some i => (i : Int) | none => -1
theorem idxOf_hit {α : Type} {p : α → Bool} {l : List α} (z : α) {i : Nat} (hi : i < l.length) (hp : p (l.getD i z) = true) (hb : ∀ j, j < i → p (l.getD j z) = false) : idxOf p l = (i : Int) := by
  have : l.findIdx? p = some i := by
    rw [List.findIdx?_eq_some_iff_getElem]
    refine ⟨hi, ?_, fun j hj => ?_⟩
    · rw [← hp, List.getD_eq_getElem?_getD, List.getElem?_eq_getElem hi]
      rfl
    · have := hb j hj
      rw [List.getD_eq_getElem?_getD, List.getElem?_eq_getElem (by omega)] at this
      simpa using this
  unfold idxOf
  rw [this]
theorem idxOf_miss {α : Type} {p : α → Bool} {l : List α} (z : α) (hb : ∀ j, j < l.length → p (l.getD j z) = false) : idxOf p l = -1 := by
  have : l.findIdx? p = none := by
    rw [List.findIdx?_eq_none_iff]
    intro x hx
    obtain ⟨j, hj, rfl⟩ := List.mem_iff_getElem.1 hx
    have := hb j hj
    rw [List.getD_eq_getElem?_getD, List.getElem?_eq_getElem hj] at this
    simpa using this
  unfold idxOf
  rw [this]
end Go.Proofs.YtgapcmmhbegdeaaW.PrintWords
end
section
/- A cell that is written over and over: that it is there is told without going through what was written. -/
namespace Go.Proofs.Ytgapcmmhbegdeaa.MAlive
open Go.RowKit Go.Proofs.YtgapcmmhbegdeaaW.PrintWords Go.Proofs.YtgapcmmhbegdeaaW.PrintLast Go.Proofs.YtgapcmmhbegdeaaW.PrintMore

def alive (w : World) (a : Addr) : Bool := (w.cell? a).isSome
theorem alive_set (w : World) (a b : Addr) (v : Value) : alive (w.setCell b v) a = alive w a := by
  unfold alive
  by_cases e : b = a
  · subst e
    cases h : w.cell? b with
    | some u => rw [World.cell?_setCell_same _ _ _ h]; rfl
    | none =>
      simp only [World.cell?] at h
      simp only [World.setCell, World.cell?, Array.getElem?_modify, ↓reduceIte]
      cases hh : w.heap[b.block]? with
      | none => simp
      | some x => cases x <;> simp_all
  · rw [World.cell?_setCell_other _ _ _ _ e]
theorem alive_drewN (w : World) (n : Nat) (a : Addr) : alive (w.drewN n) a = alive w a := rfl
theorem alive_drew (w : World) (a : Addr) : alive w.drew a = alive w a := rfl
theorem cell_set_alive (w : World) (a : Addr) (v : Value) (h : alive w a = true) : (w.setCell a v).cell? a = some v := by
  obtain ⟨u, hu⟩ := Option.isSome_iff_exists.1 h
  exact World.cell?_setCell_same w a v hu
end Go.Proofs.Ytgapcmmhbegdeaa.MAlive
end
section
/- Calls through function values, and what searches through predicates come to; no condition. -/
namespace Go.Proofs.Ytgapcmmhbegdeaa.MFun
open Go.RowKit Go.Proofs.YtgapcmmhbegdeaaW.PrintWords Go.Proofs.YtgapcmmhbegdeaaW.PrintLast Go.Proofs.YtgapcmmhbegdeaaW.PrintMore

section
variable {P : Program} {ops : Array Oper} {Q : Exit → Act → World → Prop}
end

theorem idxOf_any {α : Type} (p : α → Bool) (l : List α) : decide (0 ≤ idxOf p l) = l.any p := by
  unfold idxOf
  cases h : l.findIdx? p with
  | none =>
    have := List.findIdx?_eq_none_iff.1 h
    have e : l.any p = false := by
      rw [List.any_eq_false]
      exact fun x hx => by rw [this x hx]; decide
    rw [e]
    rfl
  | some i =>
    obtain ⟨hi, hp, _⟩ := List.findIdx?_eq_some_iff_getElem.1 h
    have e : l.any p = true := List.any_eq_true.2 ⟨l[i], List.getElem_mem hi, hp⟩
    rw [e]
    exact decide_eq_true (by show (0 : Int) ≤ (i : Int); omega)
/-- The places at which p holds, from i on. -/
def placesFrom {α : Type} (p : α → Bool) : List α → Nat → List Int
  | [], _ => []
  | x :: l, i => if p x then (i : Int) :: placesFrom p l (i + 1) else placesFrom p l (i + 1)
def places {α : Type} (p : α → Bool) (l : List α) : List Int := placesFrom p l 0
end Go.Proofs.Ytgapcmmhbegdeaa.MFun
end
section
/- Rows of a call's own, told by the range in which their blocks lie; what a test against nil comes to. No condition. -/
namespace Go.Proofs.Ytgapcmmhbegdeaa.MOwn
open Go.RowKit Go.Proofs.YtgapcmmhbegdeaaW.PrintWords Go.Proofs.YtgapcmmhbegdeaaW.PrintLast Go.Proofs.YtgapcmmhbegdeaaW.PrintMore

section
variable {α β : Type} {d : Kd α} {d' : Kd β} {e e' base : Nat} {w w1 W : World} {v : Value} {xs ys : List α} {p p' P : Nat → Prop}
def RR (d : Kd α) (e : Nat) (w : World) (base : Nat) (p : Nat → Prop) (v : Value) (xs : List α) : Prop := d.R e w base p v xs ∧ ∀ k, p k → k < w.heap.size
def SS (d : Kd α) (e : Nat) (w : World) (base : Nat) (p : Nat → Prop) (v : Value) (xs : List α) : Prop := Kd.S d e w base p v xs ∧ ∀ k, p k → k < w.heap.size
theorem RR.new (h : d.R e w1 W.heap.size (fun _ => True) v xs) (hb : base ≤ W.heap.size) : ∃ p, RR d e w1 base p v xs ∧ (∀ k, p k → W.heap.size ≤ k) ∧ ∀ k, p k → ∃ q, q ∈ e :: d.E ∧ ∃ cells, w1.heap[k]? = some (.cells cells q (0, 0)) := ⟨_, ⟨Kd.R_lower (Kd.R_bound h) hb, fun _ hk => hk.2.2.1⟩, fun _ hk => hk.2.1, fun _ hk => hk.2.2.2⟩
theorem SS.new (h : Kd.S d e w1 W.heap.size (fun _ => True) v xs) (hb : base ≤ W.heap.size) : ∃ p, SS d e w1 base p v xs ∧ (∀ k, p k → W.heap.size ≤ k) ∧ ∀ k, p k → ∃ q, q ∈ e :: d.E ∧ ∃ cells, w1.heap[k]? = some (.cells cells q (0, 0)) := ⟨_, ⟨Kd.S_lower (Kd.S_bound h) hb, fun _ hk => hk.2.2.1⟩, fun _ hk => hk.2.1, fun _ hk => hk.2.2.2⟩
/-- Two rows that one call made, of other types. -/
theorem two {L L' : List Nat} (h : ∀ k, p k → ∃ q, q ∈ L ∧ ∃ cells, w.heap[k]? = some (.cells cells q (0, 0))) (h' : ∀ k, p' k → ∃ q, q ∈ L' ∧ ∃ cells, w.heap[k]? = some (.cells cells q (0, 0))) (ht : ∀ q, q ∈ L → q ∉ L') : ∀ k, p k → p' k → False := by
  intro k h1 h2
  obtain ⟨q, hq, _, hc⟩ := h k h1
  obtain ⟨q', hq', _, hc'⟩ := h' k h2
  rw [hc] at hc'
  injection hc' with hc'
  injection hc' with _ hc'
  subst hc'
  exact ht _ hq hq'
theorem RR.at (h : RR d e w base p v xs) (hw : W.heap = w.heap) : RR d e W base p v xs := ⟨Kd.R_step h.1 (fun k _ _ => by rw [hw]), by rw [hw]; exact h.2⟩
theorem SS.at (h : SS d e w base p v xs) (hw : W.heap = w.heap) : SS d e W base p v xs := ⟨Kd.S_step h.1 (fun k _ _ => by rw [hw]), by rw [hw]; exact h.2⟩
theorem RR.below (h : RR d e w base p v xs) (hb : Below w.heap.size w w1) : RR d e w1 base p v xs := ⟨Kd.R_below h.1 hb, fun k hk => Nat.lt_of_lt_of_le (h.2 k hk) hb.size⟩
theorem SS.below (h : SS d e w base p v xs) (hb : Below w.heap.size w w1) : SS d e w1 base p v xs := ⟨Kd.S_below h.1 hb, fun k hk => Nat.lt_of_lt_of_le (h.2 k hk) hb.size⟩
theorem RR.kept (h : RR d e w base p v xs) (hk : Kept w w1 P) (hne : ∀ k, p k → ¬ P k) : RR d e w1 base p v xs := ⟨Kd.R_kept h.1 hk hne, fun k h1 => Nat.lt_of_lt_of_le (h.2 k h1) hk.1⟩
theorem SS.kept (h : SS d e w base p v xs) (hk : Kept w w1 P) (hne : ∀ k, p k → ¬ P k) : SS d e w1 base p v xs := ⟨Kd.S_kept h.1 hk hne, fun k h1 => Nat.lt_of_lt_of_le (h.2 k h1) hk.1⟩
theorem RR.form (h : RR d e w base p v xs) : ∃ A c, v = .slice A xs.length c := Kd.R_slice h.1
theorem SS.form (h : SS d e w base p v xs) : ∃ A c, v = .slice A xs.length c := Kd.S_slice h.1
theorem RR.reads {A : Option Addr} {n c : Nat} (h : RR d e w base p (.slice A n c) xs) : n = xs.length ∧ n ≤ c ∧ d.C w A xs.length xs := Kd.R_reads' h.1
theorem SS.reads {A : Option Addr} {n c : Nat} (h : SS d e w base p (.slice A n c) xs) : n = xs.length ∧ n ≤ c ∧ d.C w A xs.length xs := Kd.S_reads' h.1
end
end Go.Proofs.Ytgapcmmhbegdeaa.MOwn
end
section
/- A map of the call's own from texts to numbers that counts them: what it reads as behind each step. No condition. -/
namespace Go.Proofs.Ytgapcmmhbegdeaa.MMap
open Go.RowKit Go.WideMaps Go.Maps

def key (s : ByteArray) : Lit := .string s.data.toList
/-- How often a text stands in a list. -/
def cnt (l : List ByteArray) (s : ByteArray) : Int := ((l.filter (fun x => x.toList == s.toList)).length : Int)
theorem key_ne {s x : ByteArray} (h : (s.toList == x.toList) = false) : key x ≠ key s := by
  intro e
  unfold key at e
  injection e with e
  rw [← ByteArray.toList_eq, ← ByteArray.toList_eq] at e
  rw [e] at h
  simp at h
theorem key_eq {s x : ByteArray} (h : (s.toList == x.toList) = true) : key x = key s := by
  unfold key
  rw [← ByteArray.toList_eq, ← ByteArray.toList_eq, eq_of_beq h]
theorem cnt_step (l : List ByteArray) (s x : ByteArray) : cnt (l ++ [s]) x = if (s.toList == x.toList) = true then cnt l x + 1 else cnt l x := by
  unfold cnt
  rw [List.filter_append, List.length_append]
  split
  · rename_i h
    rw [List.filter_cons, if_pos h]
    simp
  · rename_i h
    rw [List.filter_cons, if_neg h]
    simp
theorem cnt_same {l : List ByteArray} {s x : ByteArray} (h : (s.toList == x.toList) = true) : cnt l x = cnt l s := by
  unfold cnt
  rw [eq_of_beq h]
theorem cnt_le (l : List ByteArray) (s : ByteArray) : 0 ≤ cnt l s ∧ cnt l s ≤ (l.length : Int) := by
  unfold cnt
  have := List.length_filter_le (fun x => x.toList == s.toList) l
  omega
/-- The map reads as the counts of a list. -/
def Has (l : List ByteArray) (D : DataW Unit) : Prop := IsMap D ∧ ∀ s : ByteArray, D.atKey (key s) (.lit (.int .i64 0)) = .lit (.int .i64 (cnt l s))
theorem Has.start : Has [] (.map []) := ⟨isMap_empty, fun _ => rfl⟩
theorem Has.step {l : List ByteArray} {D : DataW Unit} (h : Has l D) (s : ByteArray) : Has (l ++ [s]) (D.put (key s) (.lit (.int .i64 (cnt l s + 1)))) := by
  refine ⟨h.1.put _ _, fun x => ?_⟩
  rw [cnt_step]
  cases hq : s.toList == x.toList with
  | true =>
    rw [key_eq hq, atKey_put_same h.1 (by unfold key; trivial), if_pos rfl, cnt_same hq]
  | false =>
    rw [atKey_put_other (key_ne hq), h.2 x]
    simp
theorem own_below {P : Program} {k : TypeId} {R : Value → Option (DataW Unit × List MemPlace)} {w w' : World} {b n : Nat} {D : DataW Unit} (h : w.ownsMap P k R b n D) (hb : Below w.heap.size w w') : w'.ownsMap P k R b n D := by
  have hlt := h.lt
  obtain ⟨es, clock, h1, h2⟩ := h
  exact ⟨es, clock, (hb.block b hlt).trans h1, h2⟩
theorem law {P : Program} {k : TypeId} (hk : P.underlying k = some .string) : Keyed P k := string_keyed hk
end Go.Proofs.Ytgapcmmhbegdeaa.MMap
end
section
/- Statements that write several cells in an order that Go leaves open: the tactics for them. No condition. -/
namespace Go.Proofs.Ytgapcmmhbegdeaa.MReg
/-- A name that a text leans on when it needs these imports. -/
theorem here : True := trivial
/-- A write behind drawn orders: the orders drawn behind the write. -/
theorem set_drewN (w : World) (n : Nat) (p : Addr) (v : Value) : (w.drewN n).setCell p v = (w.setCell p v).drewN n := by
  unfold World.setCell
  rfl
end Go.Proofs.Ytgapcmmhbegdeaa.MReg
end
section
/- Phrases of tactics that the printed parts repeat word by word, each under a name: what they prove is told where they are used. No condition. -/
set_option linter.unusedVariables false
namespace Go.Proofs.Ytgapcmmhbegdeaa.G
theorem q1_ {P : Prop} (h : P := by first | rfl | (simp;done) | (simp [*];done)) : P := h
theorem q2_ {P : Prop} (h : P := by first | (with_reducible assumption) | assumption) : P := h
theorem q3_ {P : Prop} (h : P := by repeat (first | exact Drawn0.refl _ | apply Drawn0.step)) : P := h
theorem q4_ {P : Prop} (h : P := by first | rfl | (simp [errW_none,errW_some] <;> rfl) | (simp [*,errW_none,errW_some] <;> rfl)) : P := h
theorem q5_ {P : Prop} (h : P := by (with_reducible repeat (first | apply Kd.S_alloc | apply Kd.S_drewN | apply Kd.S_drew));exact HO_7.out) : P := h
theorem q6_ {P : Prop} (h : P := by (with_reducible repeat (first | apply Kd.R_alloc | apply Kd.R_drewN | apply Kd.R_drew));exact HO_8.out) : P := h
theorem q7_ {P : Prop} (h : P := by (with_reducible repeat (first | apply Kd.S_alloc | apply Kd.S_drewN | apply Kd.S_drew));exact HO_6.out) : P := h
theorem q8_ {P : Prop} (h : P := by (with_reducible repeat (first | apply Kd.Q_alloc | apply Kd.Q_drewN | apply Kd.Q_drew));exact HO_8.out) : P := h
theorem q9_ {P : Prop} (h : P := by (with_reducible repeat (first | apply Kd.Q_alloc | apply Kd.Q_drewN | apply Kd.Q_drew));exact HO_9.out) : P := h
theorem q10_ {P : Prop} (h : P := by (with_reducible repeat (first | apply Kd.S_alloc | apply Kd.S_drewN | apply Kd.S_drew));exact HO_9.out) : P := h
theorem q11_ {P : Prop} (h : P := by (with_reducible repeat (first | apply Kd.R_alloc | apply Kd.R_drewN | apply Kd.R_drew));exact HO_4.out) : P := h
theorem q12_ {P : Prop} (h : P := by (with_reducible repeat (first | apply Kd.Q_alloc | apply Kd.Q_drewN | apply Kd.Q_drew));exact HO_5.out) : P := h
theorem q13_ {P : Prop} (h : P := by (with_reducible repeat (first | apply Kd.R_alloc | apply Kd.R_drewN | apply Kd.R_drew));exact HO_5.out) : P := h
theorem q14_ {P : Prop} (h : P := by (with_reducible repeat (first | apply Kd.Q_alloc | apply Kd.Q_drewN | apply Kd.Q_drew));exact HO_6.out) : P := h
theorem q15_ {P : Prop} (h : P := by (with_reducible repeat (first | apply Kd.R_alloc | apply Kd.R_drewN | apply Kd.R_drew));exact HO103.out) : P := h
theorem q16_ {P : Prop} (h : P := by (with_reducible repeat (first | apply Kd.R_alloc | apply Kd.R_drewN | apply Kd.R_drew));exact HO104.out) : P := h
theorem q17_ {P : Prop} (h : P := by (with_reducible repeat (first | apply Kd.R_alloc | apply Kd.R_drewN | apply Kd.R_drew));exact HO110.out) : P := h
theorem q18_ {P : Prop} (h : P := by (with_reducible repeat (first | apply Kd.R_alloc | apply Kd.R_drewN | apply Kd.R_drew));exact HO106.out) : P := h
theorem q19_ {P : Prop} (h : P := by (with_reducible repeat (first | apply Kd.R_alloc | apply Kd.R_drewN | apply Kd.R_drew));exact HO112.out) : P := h
theorem q20_ {P : Prop} (h : P := by (with_reducible repeat (first | apply Kd.S_alloc | apply Kd.S_drewN | apply Kd.S_drew));exact HO_10.out) : P := h
theorem q21_ {P : Prop} (h : P := by (with_reducible repeat (first | apply Kd.S_alloc | apply Kd.S_drewN | apply Kd.S_drew));exact HO_22.out) : P := h
theorem q22_ {P : Prop} (h : P := by (with_reducible repeat (first | apply Kd.S_alloc | apply Kd.S_drewN | apply Kd.S_drew));exact HO_112.out) : P := h
theorem q23_ {P : Prop} (h : P := by (with_reducible repeat (first | refine blk_drewN ?_ _ | refine blk_drew ?_ | refine blk_alloc ?_ _));exact BK102.out) : P := h
theorem q24_ {P : Prop} (h : P := by (with_reducible repeat (first | refine blk_drewN ?_ _ | refine blk_drew ?_ | refine blk_alloc ?_ _));exact BK101.out) : P := h
theorem q25_ {P : Prop} (h : P := by (with_reducible repeat (first | refine blk_drewN ?_ _ | refine blk_drew ?_ | refine blk_alloc ?_ _));exact BK108.out) : P := h
theorem q26_ {P : Prop} (h : P := by (with_reducible repeat (first | refine blk_drewN ?_ _ | refine blk_drew ?_ | refine blk_alloc ?_ _));exact BK127.out) : P := h
theorem q27_ {P : Prop} (h : P := by (with_reducible repeat (first | refine blk_drewN ?_ _ | refine blk_drew ?_ | refine blk_alloc ?_ _));exact BK129.out) : P := h
theorem q28_ {P : Prop} (h : P := by (with_reducible repeat (first | refine blk_drewN ?_ _ | refine blk_drew ?_ | refine blk_alloc ?_ _));exact BK130.out) : P := h
theorem q29_ {P : Prop} (h : P := by repeat (first | (with_reducible first | exact HB.out | apply below_alloc | apply pw_below_drewN | apply below_drew1) | exact HB.out)) : P := h
theorem q30_ {P : Prop} (h : P := by (try simp only [List.map_toArray,List.map_cons,List.map_nil]);first | done | rfl | (simp only [List.length_drop,List.length_take];rfl)) : P := h
theorem q31_ {P : Prop} (h : P := by first | exact Kd.S_nil _ _ _ _ _ | exact Kd.N_nil _ _ _ _ _ | exact Kd.V_nil _ _ _ _ _ | exact Kd.Q_nil _ _ _ _ _ | exact Kd.R_nil _ _ _ _ _) : P := h
theorem q32_ {P : Prop} (h : P := by first | exact Kd.R_nil _ _ _ _ _ | exact Kd.N_nil _ _ _ _ _ | exact Kd.V_nil _ _ _ _ _ | exact Kd.Q_nil _ _ _ _ _ | exact Kd.S_nil _ _ _ _ _) : P := h
theorem q33_ {P : Prop} (h : P := by repeat (first | (with_reducible first | exact HK.out | apply KeepBut.set_ | apply keep_drewN | apply keep_drew | apply keep_alloc) | exact HK.out)) : P := h
theorem q34_ {P : Prop} (h : P := by repeat (first | (with_reducible first | exact HB.out | apply below_alloc | apply pw_below_drewN | apply below_drew1 | refine below_set ?_ GE102.out) | exact HB.out)) : P := h
theorem q35_ {P : Prop} (h : P := by repeat (first | (with_reducible first | exact HB.out | apply below_alloc | apply pw_below_drewN | apply below_drew1 | refine below_set ?_ GE101.out) | exact HB.out)) : P := h
theorem q36_ {P : Prop} (h : P := by repeat (first | (with_reducible first | exact HB.out | apply below_alloc | apply pw_below_drewN | apply below_drew1 | refine below_set ?_ GE108.out) | exact HB.out)) : P := h
theorem q37_ {P : Prop} (h : P := by repeat (first | (with_reducible first | exact HB.out | apply below_alloc | apply pw_below_drewN | apply below_drew1 | refine below_set ?_ GE129.out) | exact HB.out)) : P := h
theorem q38_ {P : Prop} (h : P := by repeat (first | (with_reducible first | exact HB.out | apply below_alloc | apply pw_below_drewN | apply below_drew1 | refine below_set ?_ GE130.out) | exact HB.out)) : P := h
theorem q39_ {P : Prop} (h : P := by repeat (first | (with_reducible first | exact HB.out | apply below_alloc | apply pw_below_drewN | apply below_drew1 | refine below_set ?_ (IsS145.ge HI0.out)) | exact HB.out)) : P := h
theorem q40_ {P : Prop} (h : P := by repeat (first | (with_reducible first | exact HI0.out | apply IsS145.alloc | apply IsS145.drewN | apply IsS145.drew | apply IsS145.set_1 | apply IsS145.set_2) | exact HI0.out)) : P := h
theorem q41_ {P : Prop} (h : P := by repeat (first | (with_reducible first | exact HB.out | apply below_alloc | apply pw_below_drewN | apply below_drew1 | refine below_set ?_ (IsS145.ge HI101.out)) | exact HB.out)) : P := h
theorem q42_ {P : Prop} (h : P := by repeat (first | (with_reducible first | exact HK.out | apply KeepBut.set_ | apply keep_drewN | apply keep_drew | apply keep_alloc | refine keep_far ?_ GW118.out _) | exact HK.out)) : P := h
theorem q43_ {P : Prop} (h : P := by repeat (first | (with_reducible first | exact HK.out | apply KeepBut.set_ | apply keep_drewN | apply keep_drew | apply keep_alloc | refine keep_far ?_ GW101.out _) | exact HK.out)) : P := h
theorem q44_ {P : Prop} (h : P := by repeat (first | (with_reducible first | exact HI101.out | apply IsS145.alloc | apply IsS145.drewN | apply IsS145.drew | apply IsS145.set_1 | apply IsS145.set_2) | exact HI101.out)) : P := h
theorem q45_ {P : Prop} (h : P := by repeat (first | (with_reducible first | exact HK.out | apply KeepBut.set_ | apply keep_drewN | apply keep_drew | apply keep_alloc | refine keep_far ?_ GW127.out _) | exact HK.out)) : P := h
theorem q46_ {P : Prop} (h : P := by repeat (first | (with_reducible exact HR124_0.out) | (with_reducible refine Kd.C_alloc ?_ _) | (with_reducible refine Kd.C_drewN ?_ _) | (with_reducible refine Kd.C_drew ?_) | exact HR124_0.out)) : P := h
theorem q47_ {P : Prop} (h : P := by repeat (first | (with_reducible first | exact HB.out | apply below_alloc | apply pw_below_drewN | apply below_drew1 | refine below_set ?_ GE102.out | refine below_set ?_ GE104.out) | exact HB.out)) : P := h
theorem q48_ {P : Prop} (h : P := by repeat (first | (with_reducible first | exact HB.out | apply below_alloc | apply pw_below_drewN | apply below_drew1 | refine below_set ?_ GE108.out | refine below_set ?_ GE110.out) | exact HB.out)) : P := h
theorem q49_ {P : Prop} (h : P := by repeat (first | (with_reducible first | exact HB.out | apply below_alloc | apply pw_below_drewN | apply below_drew1 | refine below_set ?_ GE129.out | refine below_set ?_ GE130.out) | exact HB.out)) : P := h
theorem q50_ {P : Prop} (h : P := by repeat (first | (with_reducible first | exact HB.out | apply below_alloc | apply pw_below_drewN | apply below_drew1 | refine below_set ?_ (IsS145.ge HI0.out) | refine below_set ?_ GE118.out) | exact HB.out)) : P := h
theorem q51_ {P : Prop} (h : P := by repeat (first | (with_reducible first | exact HB.out | apply below_alloc | apply pw_below_drewN | apply below_drew1 | refine below_set ?_ (IsS145.ge HI0.out) | refine below_set ?_ GE101.out) | exact HB.out)) : P := h
theorem q52_ {P : Prop} (h : P := by repeat (first | (with_reducible first | exact HB.out | apply below_alloc | apply pw_below_drewN | apply below_drew1 | refine below_set ?_ (IsS145.ge HI0.out) | refine below_set ?_ GE127.out) | exact HB.out)) : P := h
theorem q53_ {P : Prop} (h : P := by repeat (first | (with_reducible first | exact HI0.out | apply IsS145.alloc | apply IsS145.drewN | apply IsS145.drew | apply IsS145.set_1 | apply IsS145.set_2 | refine IsS145.far ?_ NB0_118.out _) | exact HI0.out)) : P := h
theorem q54_ {P : Prop} (h : P := by repeat (first | (with_reducible first | exact HI0.out | apply IsS145.alloc | apply IsS145.drewN | apply IsS145.drew | apply IsS145.set_1 | apply IsS145.set_2 | refine IsS145.far ?_ NB0_101.out _) | exact HI0.out)) : P := h
theorem q55_ {P : Prop} (h : P := by repeat (first | (with_reducible first | exact HK.out | apply KeepBut.set_ | apply keep_drewN | apply keep_drew | apply keep_alloc | refine keep_far ?_ GW101.out _ | refine keep_far ?_ GW114.out _) | exact HK.out)) : P := h
theorem q56_ {P : Prop} (h : P := by repeat (first | (with_reducible first | exact HI0.out | apply IsS145.alloc | apply IsS145.drewN | apply IsS145.drew | apply IsS145.set_1 | apply IsS145.set_2 | refine IsS145.far ?_ NB0_127.out _) | exact HI0.out)) : P := h
theorem q57_ {P : Prop} (h : P := by repeat (first | (with_reducible first | exact HB.out | apply below_alloc | apply pw_below_drewN | apply below_drew1 | refine below_set ?_ (IsS145.ge HI0.out) | refine below_set ?_ GE101.out | refine below_set ?_ GE114.out) | exact HB.out)) : P := h
theorem q58_ {P : Prop} (h : P := by repeat (first | (with_reducible first | exact HI0.out | apply IsS145.alloc | apply IsS145.drewN | apply IsS145.drew | apply IsS145.set_1 | apply IsS145.set_2 | refine IsS145.far ?_ NB0_101.out _ | refine IsS145.far ?_ NB0_114.out _) | exact HI0.out)) : P := h
theorem q59_ {P : Prop} (h : P := by (with_reducible repeat (first | apply Kd.R_alloc | apply Kd.R_drewN | apply Kd.R_drew));exact (Kd.R_mono (Kd.R_far (p:=⟨gb127,2,none⟩) (Kd.R_far (p:=⟨gb127,1,none⟩) (Kd.R_far (p:=⟨gb127,0,none⟩) (Kd.R_mono HO_4.out (fun k_ hk=>(⟨hk,hk.2⟩ : _ ∧ k_ ≠ gb127))) (fun _ hk=>hk.2) (.int .i64 ((rd_T58 x5_1 x20_1).f0))) (fun _ hk=>hk.2) (.int .i64 ((rd_T58 x5_1 x20_1).f1))) (fun _ hk=>hk.2) (.string ((rd_T58 x5_1 x20_1).f2))) (fun _ h_=>h_.1))) : P := h
theorem q60_ {P : Prop} (h : P := by (with_reducible repeat (first | apply Kd.Q_alloc | apply Kd.Q_drewN | apply Kd.Q_drew));exact (Kd.Q_mono (Kd.Q_far (p:=⟨gb127,2,none⟩) (Kd.Q_far (p:=⟨gb127,1,none⟩) (Kd.Q_far (p:=⟨gb127,0,none⟩) (Kd.Q_mono HO_5.out (fun k_ hk=>(⟨hk,hk.2⟩ : _ ∧ k_ ≠ gb127))) (fun _ hk=>hk.2) (.int .i64 ((rd_T58 x5_1 x20_1).f0))) (fun _ hk=>hk.2) (.int .i64 ((rd_T58 x5_1 x20_1).f1))) (fun _ hk=>hk.2) (.string ((rd_T58 x5_1 x20_1).f2))) (fun _ h_=>h_.1))) : P := h
theorem q61_ {P : Prop} (h : P := by (with_reducible repeat (first | refine blk_drewN ?_ _ | refine blk_drew ?_ | refine blk_alloc ?_ _));refine blk_far ?_ NB102_104.out _;(with_reducible repeat (first | refine blk_drewN ?_ _ | refine blk_drew ?_ | refine blk_alloc ?_ _));refine blk_far ?_ NB102_104.out _;(with_reducible repeat (first | refine blk_drewN ?_ _ | refine blk_drew ?_ | refine blk_alloc ?_ _));refine blk_far ?_ NB102_104.out _;(with_reducible repeat (first | refine blk_drewN ?_ _ | refine blk_drew ?_ | refine blk_alloc ?_ _));exact BK102.out) : P := h
theorem q62_ {P : Prop} (h : P := by (with_reducible repeat (first | refine blk_drewN ?_ _ | refine blk_drew ?_ | refine blk_alloc ?_ _));refine blk_far ?_ NB101_114.out _;(with_reducible repeat (first | refine blk_drewN ?_ _ | refine blk_drew ?_ | refine blk_alloc ?_ _));refine blk_far ?_ NB101_114.out _;(with_reducible repeat (first | refine blk_drewN ?_ _ | refine blk_drew ?_ | refine blk_alloc ?_ _));refine blk_far ?_ NB101_114.out _;(with_reducible repeat (first | refine blk_drewN ?_ _ | refine blk_drew ?_ | refine blk_alloc ?_ _));exact BK101.out) : P := h
theorem q63_ {P : Prop} (h : P := by (with_reducible repeat (first | refine blk_drewN ?_ _ | refine blk_drew ?_ | refine blk_alloc ?_ _));refine blk_far ?_ NB108_110.out _;(with_reducible repeat (first | refine blk_drewN ?_ _ | refine blk_drew ?_ | refine blk_alloc ?_ _));refine blk_far ?_ NB108_110.out _;(with_reducible repeat (first | refine blk_drewN ?_ _ | refine blk_drew ?_ | refine blk_alloc ?_ _));refine blk_far ?_ NB108_110.out _;(with_reducible repeat (first | refine blk_drewN ?_ _ | refine blk_drew ?_ | refine blk_alloc ?_ _));exact BK108.out) : P := h
theorem q64_ {P : Prop} (h : P := by (with_reducible repeat (first | refine blk_drewN ?_ _ | refine blk_drew ?_ | refine blk_alloc ?_ _));refine blk_put (cs:=#[.int .i64 a1,.int .i64 (wrap64 (a1 + t105)),.string (⟨#[]⟩ : ByteArray)]) ?_ 2 _ rfl;(with_reducible repeat (first | refine blk_drewN ?_ _ | refine blk_drew ?_ | refine blk_alloc ?_ _));refine blk_put (cs:=#[.int .i64 a1,.int .i64 0,.string (⟨#[]⟩ : ByteArray)]) ?_ 1 _ rfl;(with_reducible repeat (first | refine blk_drewN ?_ _ | refine blk_drew ?_ | refine blk_alloc ?_ _));refine blk_put (cs:=#[.int .i64 0,.int .i64 0,.string (⟨#[]⟩ : ByteArray)]) ?_ 0 _ rfl;(with_reducible repeat (first | refine blk_drewN ?_ _ | refine blk_drew ?_ | refine blk_alloc ?_ _));exact BK114.out) : P := h
theorem q65_ {P : Prop} (h : P := by (with_reducible repeat (first | refine blk_drewN ?_ _ | refine blk_drew ?_ | refine blk_alloc ?_ _));refine blk_put (cs:=#[.int .i64 ((rd_T58 l0 x7_1).f0),.int .i64 ((rd_T58 l0 x7_1).f1),.string (⟨#[]⟩ : ByteArray)]) ?_ 2 _ rfl;(with_reducible repeat (first | refine blk_drewN ?_ _ | refine blk_drew ?_ | refine blk_alloc ?_ _));refine blk_put (cs:=#[.int .i64 ((rd_T58 l0 x7_1).f0),.int .i64 0,.string (⟨#[]⟩ : ByteArray)]) ?_ 1 _ rfl;(with_reducible repeat (first | refine blk_drewN ?_ _ | refine blk_drew ?_ | refine blk_alloc ?_ _));refine blk_put (cs:=#[.int .i64 0,.int .i64 0,.string (⟨#[]⟩ : ByteArray)]) ?_ 0 _ rfl;(with_reducible repeat (first | refine blk_drewN ?_ _ | refine blk_drew ?_ | refine blk_alloc ?_ _));exact BK102.out) : P := h
theorem q66_ {P : Prop} (h : P := by (with_reducible repeat (first | refine blk_drewN ?_ _ | refine blk_drew ?_ | refine blk_alloc ?_ _));refine blk_put (cs:=#[.int .i64 ((rd_T58 x5_1 x20_1).f0),.int .i64 ((rd_T58 x5_1 x20_1).f1),.string (⟨#[]⟩ : ByteArray)]) ?_ 2 _ rfl;(with_reducible repeat (first | refine blk_drewN ?_ _ | refine blk_drew ?_ | refine blk_alloc ?_ _));refine blk_put (cs:=#[.int .i64 ((rd_T58 x5_1 x20_1).f0),.int .i64 0,.string (⟨#[]⟩ : ByteArray)]) ?_ 1 _ rfl;(with_reducible repeat (first | refine blk_drewN ?_ _ | refine blk_drew ?_ | refine blk_alloc ?_ _));refine blk_put (cs:=#[.int .i64 0,.int .i64 0,.string (⟨#[]⟩ : ByteArray)]) ?_ 0 _ rfl;(with_reducible repeat (first | refine blk_drewN ?_ _ | refine blk_drew ?_ | refine blk_alloc ?_ _));exact BK127.out) : P := h
theorem q67_ {P : Prop} (h : P := by rw [hg];exact (below_size (q29_))) : P := h
theorem q68_ {P : Prop} (h : P := by rw [hg];exact (keep_size (w:=w) (g:=g) (row:=none) (q33_))) : P := h
theorem q69_ {P : Prop} (h : P := by rw [hg];exact Nat.ne_of_lt (blk_lt (g:=gb102) (o:=.cells #[.int .i64 ((rd_T58 l0 x15_1).f0),.int .i64 ((rd_T58 l0 x15_1).f1),.string ((rd_T58 l0 x15_1).f2)] 58 (0,0)) (q23_))) : P := h
theorem q70_ {P : Prop} (h : P := by rw [hg];exact Nat.ne_of_gt (blk_lt (g:=gb102) (o:=.cells #[.int .i64 ((rd_T58 l0 x15_1).f0),.int .i64 ((rd_T58 l0 x15_1).f1),.string ((rd_T58 l0 x15_1).f2)] 58 (0,0)) (q23_))) : P := h
theorem q71_ {P : Prop} (h : P := by rw [hg];exact Nat.ne_of_lt (blk_lt (g:=gb108) (o:=.cells #[.int .i64 ((rd_T58 l0 x32_2).f0),.int .i64 ((rd_T58 l0 x32_2).f1),.string ((rd_T58 l0 x32_2).f2)] 58 (0,0)) (q25_))) : P := h
theorem q72_ {P : Prop} (h : P := by rw [hg];exact Nat.ne_of_gt (blk_lt (g:=gb108) (o:=.cells #[.int .i64 ((rd_T58 l0 x32_2).f0),.int .i64 ((rd_T58 l0 x32_2).f1),.string ((rd_T58 l0 x32_2).f2)] 58 (0,0)) (q25_))) : P := h
theorem q73_ {P : Prop} (h : P := by (with_reducible repeat (first | apply Kd.R_alloc | apply Kd.R_drewN | apply Kd.R_drew));exact (Kd.R_mono (Kd.R_far (p:=⟨gb114,2,none⟩) (Kd.R_far (p:=⟨gb114,1,none⟩) (Kd.R_far (p:=⟨gb114,0,none⟩) (Kd.R_types HO104.out BK114.out (by decide)) (fun _ hk=>hk.2) (.int .i64 a1)) (fun _ hk=>hk.2) (.int .i64 (wrap64 (a1 + t105)))) (fun _ hk=>hk.2) (.string t111)) (fun _ h_=>h_.1))) : P := h
theorem q74_ {P : Prop} (h : P := by (with_reducible repeat (first | apply Kd.R_alloc | apply Kd.R_drewN | apply Kd.R_drew));exact (Kd.R_mono (Kd.R_far (p:=⟨gb114,2,none⟩) (Kd.R_far (p:=⟨gb114,1,none⟩) (Kd.R_far (p:=⟨gb114,0,none⟩) (Kd.R_types HO110.out BK114.out (by decide)) (fun _ hk=>hk.2) (.int .i64 a1)) (fun _ hk=>hk.2) (.int .i64 (wrap64 (a1 + t105)))) (fun _ hk=>hk.2) (.string t111)) (fun _ h_=>h_.1))) : P := h
theorem q75_ {P : Prop} (h : P := by (with_reducible repeat (first | apply Kd.S_alloc | apply Kd.S_drewN | apply Kd.S_drew));exact Kd.S_mono (Kd.S_far (p:=⟨gb104,2,none⟩) (Kd.S_far (p:=⟨gb104,1,none⟩) (Kd.S_far (p:=⟨gb104,0,none⟩) (Kd.S_types HO_7.out BK104.out (by decide)) (fun _ hk=>hk.2) (.int .i64 ((rd_T58 l1 x22_2).f0))) (fun _ hk=>hk.2) (.int .i64 ((rd_T58 l1 x22_2).f1))) (fun _ hk=>hk.2) (.string ((rd_T58 l1 x22_2).f2))) (fun _ hk=>hk.1)) : P := h
theorem q76_ {P : Prop} (h : P := by (with_reducible repeat (first | apply Kd.R_alloc | apply Kd.R_drewN | apply Kd.R_drew));exact (Kd.R_mono (Kd.R_far (p:=⟨gb104,2,none⟩) (Kd.R_far (p:=⟨gb104,1,none⟩) (Kd.R_far (p:=⟨gb104,0,none⟩) (Kd.R_types HO_8.out BK104.out (by decide)) (fun _ hk=>hk.2) (.int .i64 ((rd_T58 l1 x22_2).f0))) (fun _ hk=>hk.2) (.int .i64 ((rd_T58 l1 x22_2).f1))) (fun _ hk=>hk.2) (.string ((rd_T58 l1 x22_2).f2))) (fun _ h_=>h_.1))) : P := h
theorem q77_ {P : Prop} (h : P := by (with_reducible repeat (first | apply Kd.R_alloc | apply Kd.R_drewN | apply Kd.R_drew));exact Kd.R_mono (Kd.R_far (p:=⟨gb104,2,none⟩) (Kd.R_far (p:=⟨gb104,1,none⟩) (Kd.R_far (p:=⟨gb104,0,none⟩) (Kd.R_types HO_8.out BK104.out (by decide)) (fun _ hk=>hk.2) (.int .i64 ((rd_T58 l1 x22_2).f0))) (fun _ hk=>hk.2) (.int .i64 ((rd_T58 l1 x22_2).f1))) (fun _ hk=>hk.2) (.string ((rd_T58 l1 x22_2).f2))) (fun _ hk=>trivial)) : P := h
theorem q78_ {P : Prop} (h : P := by simp only [Act.put,List.setIfInBounds_toArray,List.set_cons_zero,List.set_cons_succ,i64_w,i32_w];rfl) : P := h
end Go.Proofs.Ytgapcmmhbegdeaa.G
end
section
/- The steps of drawing regions that repeat word by word, each under a short name; what has come up in them. No condition. -/
set_option linter.unusedVariables false
namespace Go.Proofs.Ytgapcmmhbegdeaa.G
open Go.RowKit Go.Proofs.YtgapcmmhbegdeaaW.PrintWords Go.Proofs.YtgapcmmhbegdeaaW.PrintLast Go.Proofs.YtgapcmmhbegdeaaW.PrintMore
theorem cX_ {P Q : Prop} (h : P) (f : P → Q := by intro h_; repeat (first | exact h_ | (with_reducible refine Kd.C_alloc ?_ _) | (with_reducible refine Kd.C_drewN ?_ _) | (with_reducible refine Kd.C_drew ?_))) : Q := f h
theorem rB_ {α : Type} {d : Kd α} {e base : Nat} {ok : Nat → Prop} {v : Value} {xs : List α} {w w1 w2 : World} (H : Aside0 (d.R e w base ok v xs)) (hb : Below w1.heap.size w1 w2) (f : d.R e w base ok v xs → d.R e w1 base ok v xs := by intro h_; (with_reducible repeat (first | apply Kd.R_alloc | apply Kd.R_drewN | apply Kd.R_drew)); exact h_) : Aside0 (d.R e w2 base ok v xs) := ⟨Kd.R_below (f H.out) hb⟩
theorem rE_ {α β : Type} {d : Kd α} {d' : Kd β} {e e' base : Nat} {ok ok' : Nat → Prop} {u v : Value} {xs : List α} {ys : List β} {w w1 w2 w3 : World} (H : Aside0 (d.R e w base ok u xs)) (ho : d'.R e' w3 w1.heap.size ok' v ys) (hb : Below w1.heap.size w1 w2) (f : d.R e w base ok u xs → d.R e w1 base ok u xs := by intro h_; (with_reducible repeat (first | apply Kd.R_alloc | apply Kd.R_drewN | apply Kd.R_drew)); exact h_) : Aside0 (d.R e w2 base (fun k => ok k ∧ some k ≠ v.ownBlock) u xs) := ⟨Kd.R_elder' (f H.out) (Kd.R_base ho) hb⟩
theorem bS_ {w w1 w2 w3 : World} (H : Aside0 (Below w.heap.size w w1)) (hb : Below w2.heap.size w2 w3) (f : Below w.heap.size w w1 → Below w.heap.size w w2 := by intro h_; repeat (first | (with_reducible first | exact h_ | apply below_alloc | apply pw_below_drewN | apply below_drew1) | exact h_)) : Aside0 (Below w.heap.size w w3) := ⟨below_step (f H.out) hb⟩
theorem bkB_ {w w1 w2 : World} {g : Nat} {o : Obj} (H : Aside0 (w.heap[g]? = some o)) (hb : Below w1.heap.size w1 w2) (f : w.heap[g]? = some o → w1.heap[g]? = some o := by intro h_; (with_reducible repeat (first | refine blk_drewN ?_ _ | refine blk_drew ?_ | refine blk_alloc ?_ _)); exact h_) : Aside0 (w2.heap[g]? = some o) := ⟨blk_below (f H.out) hb⟩
theorem hB_ {w w1 : World} {p : Addr} {v : Value} (hb : Below w.heap.size w w1) (h : w.cell? p = some v) : w1.cell? p = some v := (hb.cell (World.block_lt_of_cell? w _ h)).trans h
theorem pa_ {P : Program} {ops : Array Oper} {Q : Exit → Act → World → Prop} {md : Region.Mode} {S : World → Prop} {ds : List Nat} {oi : Oper} {v : Value} {fuel : Nat} {l : Array Bool} {a : Act} {w : World} (i n : Nat) (l' : Array Bool) {a' : Act} (h : wpAnyLast P md ops Q S ds fuel l' a' w) (hi : ops[i]? = some oi := by rfl) (hN : oi.dst = some n := by rfl) (hc : anyB md ops l l' i = true := by exact any_of HT_.out (by kernel_rfl)) (hQ : ∀ c a w, Q (.panic c) (a.put oi.dst v) w → Q (.panic c) a w := by exact fun _ _ _ h => h) (hy : Yields P ops oi v a := by exact Or.inl ⟨by rfl, by intro w'; go_simp; with_reducible rfl⟩) (ha : a.put (some n) v = a' := by simp only [Act.put,List.setIfInBounds_toArray,List.set_cons_zero,List.set_cons_succ,i64_w,i32_w]; rfl) : wpAnyLast P md ops Q S ds (fuel + 1) l a w := pure_ l' hi hN hc hQ hy ha h
theorem pu_ {P : Program} {ops : Array Oper} {Q : Exit → Act → World → Prop} {md : Region.Mode} {S : World → Prop} {ds : List Nat} {oi : Oper} {fuel : Nat} {l : Array Bool} {a : Act} {w : World} (i n : Nat) (l' : Array Bool) {a' : Act} (h : wpAnyLast P md ops Q S ds fuel l' a' w) (hi : ops[i]? = some oi := by rfl) (hN : oi.dst = some n := by rfl) (hc : anyB md ops l l' i = true := by exact any_of HT_.out (by kernel_rfl)) (hQ : ∀ c a w, Q (.panic c) (a.put oi.dst undef) w → Q (.panic c) a w := by exact fun _ _ _ h => h) (hy : Yields P ops oi undef a := by exact Or.inr ⟨by rfl, rfl⟩) (ha : a.put (some n) undef = a' := by simp only [Act.put,List.setIfInBounds_toArray,List.set_cons_zero,List.set_cons_succ,i64_w,i32_w]; rfl) : wpAnyLast P md ops Q S ds (fuel + 1) l a w := pure_ l' hi hN hc hQ hy ha h
def f0_ : Array Bool := (fun t f => #[f,f,f,f,f,f,f,f,f,f,f,f,f,f,f,f,f,f]) true false
def f1_ : Array Bool := (fun t f => #[t,f,f,f,f,f,f,f,f,f,f,f,f,f,f,f,f,f]) true false
def f2_ : Array Bool := (fun t f => #[t,t,f,f,f,f,f,f,f,f,f,f,f,f,f,f,f,f]) true false
def f3_ : Array Bool := (fun t f => #[t,t,t,f,f,f,f,f,f,f,f,f,f,f,f,f,f,f]) true false
def f4_ : Array Bool := (fun t f => #[t,t,t,t,f,f,f,f,f,f,f,f,f,f,f,f,f,f]) true false
def f5_ : Array Bool := (fun t f => #[t,t,t,t,t,f,f,f,f,f,f,f,f,f,f,f,f,f]) true false
def f6_ : Array Bool := (fun t f => #[t,t,t,t,t,t,f,f,f,f,f,f,f,f,f,f,f,f]) true false
def f7_ : Array Bool := (fun t f => #[t,t,t,t,t,t,t,f,f,f,f,f,f,f,f,f,f,f]) true false
def f8_ : Array Bool := (fun t f => #[t,t,t,t,t,t,t,t,f,f,f,f,f,f,f,f,f,f]) true false
def f9_ : Array Bool := (fun t f => #[t,t,t,t,t,t,t,t,t,f,f,f,f,f,f,f,f,f]) true false
def f10_ : Array Bool := (fun t f => #[t,t,t,t,t,t,t,t,t,t,f,f,f,f,f,f,f,f]) true false
def f11_ : Array Bool := (fun t f => #[t,t,t,t,t,t,t,t,t,t,t,f,f,f,f,f,f,f]) true false
def f12_ : Array Bool := (fun t f => #[t,t,t,t,t,t,t,t,t,t,t,t,f,f,f,f,f,f]) true false
def f13_ : Array Bool := (fun t f => #[t,t,t,t,t,t,t,t,t,t,t,t,f,t,f,f,f,f]) true false
def f14_ : Array Bool := (fun t f => #[t,t,t,t,t,t,t,t,t,t,t,t,t,t,f,f,f,f]) true false
def f15_ : Array Bool := (fun t f => #[t,t,t,t,t,t,t,t,t,t,t,t,t,t,t,f,f,f]) true false
def f16_ : Array Bool := (fun t f => #[t,t,t,t,t,t,t,t,t,t,t,t,t,t,t,t,f,f]) true false
def f17_ : Array Bool := (fun t f => #[t,t,t,t,t,t,t,t,t,t,t,t,t,t,t,t,t,f]) true false
def f18_ : Array Bool := (fun t f => #[t,t,t,t,t,t,t,t,t,t,t,t,t,t,t,t,t,t]) true false
def f19_ : Array Bool := (fun t f => #[t,t,t,t,t,t,t,t,t,t,t,t,t,f,f,f,f,f]) true false
def f20_ : Array Bool := (fun t f => #[f,f,f,f,f,f,f,f,f,f,f]) true false
def f21_ : Array Bool := (fun t f => #[t,f,f,f,f,f,f,f,f,f,f]) true false
def f22_ : Array Bool := (fun t f => #[t,f,f,t,f,f,f,f,f,f,f]) true false
def f23_ : Array Bool := (fun t f => #[t,f,f,t,f,t,f,f,f,f,f]) true false
def f24_ : Array Bool := (fun t f => #[t,t,f,t,f,t,f,f,f,f,f]) true false
def f25_ : Array Bool := (fun t f => #[t,t,t,t,f,t,f,f,f,f,f]) true false
def f26_ : Array Bool := (fun t f => #[t,t,t,t,t,t,f,f,f,f,f]) true false
def f27_ : Array Bool := (fun t f => #[t,t,t,t,t,t,t,f,f,f,f]) true false
def f28_ : Array Bool := (fun t f => #[t,t,t,t,t,t,t,t,f,f,f]) true false
def f29_ : Array Bool := (fun t f => #[t,t,t,t,t,t,t,t,t,f,f]) true false
def f30_ : Array Bool := (fun t f => #[t,t,t,t,t,t,t,t,t,t,f]) true false
def f31_ : Array Bool := (fun t f => #[t,t,t,t,t,t,t,t,t,t,t]) true false
def f32_ : Array Bool := (fun t f => #[f,f,f,f,f,f,f,f,f,f,f,f,f,f,f,f]) true false
def f33_ : Array Bool := (fun t f => #[t,f,f,f,f,f,f,f,f,f,f,f,f,f,f,f]) true false
def f34_ : Array Bool := (fun t f => #[t,t,f,f,f,f,f,f,f,f,f,f,f,f,f,f]) true false
def f35_ : Array Bool := (fun t f => #[t,t,t,f,f,f,f,f,f,f,f,f,f,f,f,f]) true false
def f36_ : Array Bool := (fun t f => #[t,t,t,f,f,f,t,f,f,f,f,f,f,f,f,f]) true false
def f37_ : Array Bool := (fun t f => #[t,t,t,f,f,f,t,t,f,f,f,f,f,f,f,f]) true false
def f38_ : Array Bool := (fun t f => #[t,t,t,f,f,f,t,t,t,f,f,f,f,f,f,f]) true false
def f39_ : Array Bool := (fun t f => #[t,t,t,t,f,f,t,t,t,f,f,f,f,f,f,f]) true false
def f40_ : Array Bool := (fun t f => #[t,t,t,t,t,f,t,t,t,f,f,f,f,f,f,f]) true false
def f41_ : Array Bool := (fun t f => #[t,t,t,t,t,t,t,t,t,f,f,f,f,f,f,f]) true false
def f42_ : Array Bool := (fun t f => #[t,t,t,t,t,t,t,t,t,t,f,f,f,f,f,f]) true false
def f43_ : Array Bool := (fun t f => #[t,t,t,t,t,t,t,t,t,t,t,f,f,f,f,f]) true false
def f44_ : Array Bool := (fun t f => #[t,t,t,t,t,t,t,t,t,t,t,t,f,f,f,f]) true false
def f45_ : Array Bool := (fun t f => #[t,t,t,t,t,t,t,t,t,t,t,t,t,t,f,f]) true false
def f46_ : Array Bool := (fun t f => #[t,t,t,t,t,t,t,t,t,t,t,t,t,f,f,f]) true false
def f47_ : Array Bool := (fun t f => #[t,t,t,t,t,t,t,t,t,t,t,t,f,t,f,f]) true false
def f48_ : Array Bool := (fun t f => #[t,t,t,t,t,t,t,t,t,t,t,t,t,t,t,f]) true false
def f49_ : Array Bool := (fun t f => #[t,t,t,t,t,t,t,t,t,t,t,t,t,t,t,t]) true false
def f50_ : Array Bool := (fun t f => #[f,f,f,f,f,f,f,f,f,f,f,f,f,f,f,f,f,f,f,f,f,f,f,f,f,f,f,f,f,f,f,f,f,f,f,f,f,f,f,f,f,f]) true false
def f51_ : Array Bool := (fun t f => #[t,f,f,f,f,f,f,f,f,f,f,f,f,f,f,f,f,f,f,f,f,f,f,f,f,f,f,f,f,f,f,f,f,f,f,f,f,f,f,f,f,f]) true false
def f52_ : Array Bool := (fun t f => #[t,f,t,f,f,f,f,f,f,f,f,f,f,f,f,f,f,f,f,f,f,f,f,f,f,f,f,f,f,f,f,f,f,f,f,f,f,f,f,f,f,f]) true false
def f53_ : Array Bool := (fun t f => #[t,t,t,f,f,f,f,f,f,f,f,f,f,f,f,f,f,f,f,f,f,f,f,f,f,f,f,f,f,f,f,f,f,f,f,f,f,f,f,f,f,f]) true false
def f54_ : Array Bool := (fun t f => #[t,t,t,t,f,f,f,f,f,f,f,f,f,f,f,f,f,f,f,f,f,f,f,f,f,f,f,f,f,f,f,f,f,f,f,f,f,f,f,f,f,f]) true false
def f55_ : Array Bool := (fun t f => #[t,t,t,t,t,f,f,f,f,f,f,f,f,f,f,f,f,f,f,f,f,f,f,f,f,f,f,f,f,f,f,f,f,f,f,f,f,f,f,f,f,f]) true false
def f56_ : Array Bool := (fun t f => #[t,t,t,t,t,t,f,f,f,f,f,f,f,f,f,f,f,f,f,f,f,f,f,f,f,f,f,f,f,f,f,f,f,f,f,f,f,f,f,f,f,f]) true false
def f57_ : Array Bool := (fun t f => #[t,t,t,t,t,t,t,f,f,f,f,f,f,f,f,f,f,f,f,f,f,f,f,f,f,f,f,f,f,f,f,f,f,f,f,f,f,f,f,f,f,f]) true false
def f58_ : Array Bool := (fun t f => #[t,t,t,t,t,t,t,f,t,f,f,f,f,f,f,f,f,f,f,f,f,f,f,f,f,f,f,f,f,f,f,f,f,f,f,f,f,f,f,f,f,f]) true false
def f59_ : Array Bool := (fun t f => #[t,t,t,t,t,t,t,f,t,f,f,f,t,f,f,f,f,f,f,f,f,f,f,f,f,f,f,f,f,f,f,f,f,f,f,f,f,f,f,f,f,f]) true false
def f60_ : Array Bool := (fun t f => #[t,t,t,t,t,t,t,t,t,f,f,f,t,f,f,f,f,f,f,f,f,f,f,f,f,f,f,f,f,f,f,f,f,f,f,f,f,f,f,f,f,f]) true false
def f61_ : Array Bool := (fun t f => #[t,t,t,t,t,t,t,t,t,t,f,f,t,f,f,f,f,f,f,f,f,f,f,f,f,f,f,f,f,f,f,f,f,f,f,f,f,f,f,f,f,f]) true false
def f62_ : Array Bool := (fun t f => #[t,t,t,t,t,t,t,t,t,t,t,f,t,f,f,f,f,f,f,f,f,f,f,f,f,f,f,f,f,f,f,f,f,f,f,f,f,f,f,f,f,f]) true false
def f63_ : Array Bool := (fun t f => #[t,t,t,t,t,t,t,t,t,t,t,t,t,f,f,f,f,f,f,f,f,f,f,f,f,f,f,f,f,f,f,f,f,f,f,f,f,f,f,f,f,f]) true false
def f64_ : Array Bool := (fun t f => #[t,t,t,t,t,t,t,t,t,t,t,t,t,t,f,f,f,f,f,f,f,f,f,f,f,f,f,f,f,f,f,f,f,f,f,f,f,f,f,f,f,f]) true false
def f65_ : Array Bool := (fun t f => #[t,t,t,t,t,t,t,t,t,t,t,t,t,t,t,f,f,f,f,f,f,f,f,f,f,f,f,f,f,f,f,f,f,f,f,f,f,f,f,f,f,f]) true false
def f66_ : Array Bool := (fun t f => #[t,t,t,t,t,t,t,t,t,t,t,t,t,t,t,t,f,f,f,f,f,f,f,f,f,f,f,f,f,f,f,f,f,f,f,f,f,f,f,f,f,f]) true false
def f67_ : Array Bool := (fun t f => #[t,t,t,t,t,t,t,t,t,t,t,t,t,t,t,t,t,f,f,f,f,f,f,f,f,f,f,f,f,f,f,f,f,f,f,f,f,f,f,f,f,f]) true false
def f68_ : Array Bool := (fun t f => #[t,t,t,t,t,t,t,t,t,t,t,t,t,t,t,t,t,f,t,f,f,f,f,f,f,f,f,f,f,f,f,f,f,f,f,f,f,f,f,f,f,f]) true false
def f69_ : Array Bool := (fun t f => #[t,t,t,t,t,t,t,t,t,t,t,t,t,t,t,t,t,f,t,f,f,f,t,f,f,f,f,f,f,f,f,f,f,f,f,f,f,f,f,f,f,f]) true false
def f70_ : Array Bool := (fun t f => #[t,t,t,t,t,t,t,t,t,t,t,t,t,t,t,t,t,t,t,f,f,f,t,f,f,f,f,f,f,f,f,f,f,f,f,f,f,f,f,f,f,f]) true false
def f71_ : Array Bool := (fun t f => #[t,t,t,t,t,t,t,t,t,t,t,t,t,t,t,t,t,t,t,t,f,f,t,f,f,f,f,f,f,f,f,f,f,f,f,f,f,f,f,f,f,f]) true false
def f72_ : Array Bool := (fun t f => #[t,t,t,t,t,t,t,t,t,t,t,t,t,t,t,t,t,t,t,t,t,f,t,f,f,f,f,f,f,f,f,f,f,f,f,f,f,f,f,f,f,f]) true false
def f73_ : Array Bool := (fun t f => #[t,t,t,t,t,t,t,t,t,t,t,t,t,t,t,t,t,t,t,t,t,t,t,f,f,f,f,f,f,f,f,f,f,f,f,f,f,f,f,f,f,f]) true false
def f74_ : Array Bool := (fun t f => #[t,t,t,t,t,t,t,t,t,t,t,t,t,t,t,t,t,t,t,t,t,t,t,t,f,f,f,f,f,f,f,f,f,f,f,f,f,f,f,f,f,f]) true false
def f75_ : Array Bool := (fun t f => #[t,t,t,t,t,t,t,t,t,t,t,t,t,t,t,t,t,t,t,t,t,t,t,t,t,f,f,f,f,f,f,f,f,f,f,f,f,f,f,f,f,f]) true false
def f76_ : Array Bool := (fun t f => #[t,t,t,t,t,t,t,t,t,t,t,t,t,t,t,t,t,t,t,t,t,t,t,t,t,t,f,f,f,f,f,f,f,f,f,f,f,f,f,f,f,f]) true false
def f77_ : Array Bool := (fun t f => #[t,t,t,t,t,t,t,t,t,t,t,t,t,t,t,t,t,t,t,t,t,t,t,t,t,t,t,f,f,f,f,f,f,f,f,f,f,f,f,f,f,f]) true false
def f78_ : Array Bool := (fun t f => #[t,t,t,t,t,t,t,t,t,t,t,t,t,t,t,t,t,t,t,t,t,t,t,t,t,t,t,t,f,f,f,f,f,f,f,f,f,f,f,f,f,f]) true false
def f79_ : Array Bool := (fun t f => #[t,t,t,t,t,t,t,t,t,t,t,t,t,t,t,t,t,t,t,t,t,t,t,t,t,t,t,t,t,f,f,f,f,f,f,f,f,f,f,f,f,f]) true false
def f80_ : Array Bool := (fun t f => #[t,t,t,t,t,t,t,t,t,t,t,t,t,t,t,t,t,t,t,t,t,t,t,t,t,t,t,t,t,t,f,f,f,f,f,f,f,f,f,f,f,f]) true false
def f81_ : Array Bool := (fun t f => #[t,t,t,t,t,t,t,t,t,t,t,t,t,t,t,t,t,t,t,t,t,t,t,t,t,t,t,t,t,t,t,f,f,f,f,f,f,f,f,f,f,f]) true false
def f82_ : Array Bool := (fun t f => #[t,t,t,t,t,t,t,t,t,t,t,t,t,t,t,t,t,t,t,t,t,t,t,t,t,t,t,t,t,t,t,t,f,f,f,f,f,f,f,f,f,f]) true false
def f83_ : Array Bool := (fun t f => #[t,t,t,t,t,t,t,t,t,t,t,t,t,t,t,t,t,t,t,t,t,t,t,t,t,t,t,t,t,t,t,t,t,f,f,f,f,f,f,f,f,f]) true false
def f84_ : Array Bool := (fun t f => #[t,t,t,t,t,t,t,t,t,t,t,t,t,t,t,t,t,t,t,t,t,t,t,t,t,t,t,t,t,t,t,t,t,f,f,f,t,f,f,f,f,f]) true false
def f85_ : Array Bool := (fun t f => #[t,t,t,t,t,t,t,t,t,t,t,t,t,t,t,t,t,t,t,t,t,t,t,t,t,t,t,t,t,t,t,t,t,f,f,f,t,t,f,f,f,f]) true false
def f86_ : Array Bool := (fun t f => #[t,t,t,t,t,t,t,t,t,t,t,t,t,t,t,t,t,t,t,t,t,t,t,t,t,t,t,t,t,t,t,t,t,t,f,f,t,t,f,f,f,f]) true false
def f87_ : Array Bool := (fun t f => #[t,t,t,t,t,t,t,t,t,t,t,t,t,t,t,t,t,t,t,t,t,t,t,t,t,t,t,t,t,t,t,t,t,t,t,f,t,t,f,f,f,f]) true false
def f88_ : Array Bool := (fun t f => #[t,t,t,t,t,t,t,t,t,t,t,t,t,t,t,t,t,t,t,t,t,t,t,t,t,t,t,t,t,t,t,t,t,t,t,t,t,t,f,f,f,f]) true false
def f89_ : Array Bool := (fun t f => #[t,t,t,t,t,t,t,t,t,t,t,t,t,t,t,t,t,t,t,t,t,t,t,t,t,t,t,t,t,t,t,t,t,t,t,t,t,t,t,f,f,f]) true false
def f90_ : Array Bool := (fun t f => #[t,t,t,t,t,t,t,t,t,t,t,t,t,t,t,t,t,t,t,t,t,t,t,t,t,t,t,t,t,t,t,t,t,t,t,t,t,t,t,t,f,f]) true false
def f91_ : Array Bool := (fun t f => #[t,t,t,t,t,t,t,t,t,t,t,t,t,t,t,t,t,t,t,t,t,t,t,t,t,t,t,t,t,t,t,t,t,t,t,t,t,t,t,t,t,f]) true false
def f92_ : Array Bool := (fun t f => #[t,t,t,t,t,t,t,t,t,t,t,t,t,t,t,t,t,t,t,t,t,t,t,t,t,t,t,t,t,t,t,t,t,t,t,t,t,t,t,t,t,t]) true false
def f93_ : Array Bool := (fun t f => #[t,t,t,t,t,t,t,t,t,t,t,t,t,t,t,t,t,t,t,t,t,t,t,t,t,t,t,t,t,t,t,t,t,t,f,f,f,f,f,f,f,f]) true false
def f94_ : Array Bool := (fun t f => #[t,t,t,t,t,t,t,t,t,t,t,t,t,t,t,t,t,t,t,t,t,t,t,t,t,t,t,t,t,t,t,t,t,t,t,f,f,f,f,f,f,f]) true false
def f95_ : Array Bool := (fun t f => #[t,t,t,t,t,t,t,t,t,t,t,t,t,t,t,t,t,t,t,t,t,t,t,t,t,t,t,t,t,t,t,t,t,t,t,t,f,f,f,f,f,f]) true false
def f96_ : Array Bool := (fun t f => #[t,t,t,t,t,t,t,t,t,t,t,t,t,t,t,t,t,t,t,t,t,t,t,t,t,t,t,t,t,t,t,t,t,t,t,t,t,f,f,f,f,f]) true false
theorem bx3_ {w : World} {g : Nat} {t : TypeId} {a b c : Value} (h : w.heap[g]? = some (.cells #[a, b, c] t (0, 0))) : w.cell? ⟨g, 0, none⟩ = some a ∧ w.cell? ⟨g, 1, none⟩ = some b ∧ w.cell? ⟨g, 2, none⟩ = some c ∧ w.frozen? ⟨g, 0, none⟩ = false ∧ w.frozen? ⟨g, 1, none⟩ = false ∧ w.frozen? ⟨g, 2, none⟩ = false := ⟨(blk_cell h 0).trans rfl, (blk_cell h 1).trans rfl, (blk_cell h 2).trans rfl, blk_frozen h 0, blk_frozen h 1, blk_frozen h 2⟩
end Go.Proofs.Ytgapcmmhbegdeaa.G
end
