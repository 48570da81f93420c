/- What the printed parts use beside the words: readings, rows of one's own, phrases of tactics. No condition. -/
import Derived.Test.YtgapcmmhbegdeaaWAll
import Derived.SizedLaws
import Derived.Deep.Slices
import Derived.Lib.SmallJoins
import Derived.Deep.Strs
import Derived.Lib.SliceRun
import Derived.Maps.Own
import Derived.Maps.OwnOps
import Derived.Maps.Views
import Derived.Laws.Strings
import Derived.WideKeyEntry
import Derived.DeepKeys4
import Derived.Maps.RangeWalk
import Derived.RegionTactic
import Derived.BigRegion
import Derived.WalkKit
section
/- What comes in as an argument, read as a value of the print's kinds: whole numbers, bools, strings, structs of two to four one-cell fields, slices of any of these. No condition beyond what a row's reading gives. -/
namespace Go.Proofs.YtgapcmmhbegdeaaW.PrintWords
open Go.ChangeShapes Go.WideShapes Go.RowKit Go.Joins Go.Deep

/-- What reads as data at type t reads as a value of the kind k of which G holds. -/
def Rd {α : Type} (P : Program) (t : TypeId) (k : Kd α) (G : α → Prop) : Prop :=
  ∀ (H : Type) (enc : TypeId × Value → H) (w : World) (base : Nat) (spare : Nat → Bool) (held : Bool) (fuel : Nat) (cs : List Value) (x : DataW H × List MemPlace),
    DataW.trod enc P w base spare held fuel t cs = some x → (∀ n, n ∈ x.1.weights P t → n ≤ reachBytes) → ∃ a, k.K w a cs ∧ G a

theorem rd_int {P : Program} {t : TypeId} (k : IntKind) (ht : P.underlying t = some (.int k)) : Rd P t (Kd.int k) (fun n => (Lit.int k n).wf = true) := by
  intro H enc w base spare held fuel cs x h _
  obtain ⟨n, rfl, rfl, hw⟩ := DataW.trod_int ht h
  exact ⟨n, rfl, hw⟩
/-- A list out of its elements. -/
theorem list_of {α : Type} {p : Nat → α → Prop} : ∀ n, (∀ i, i < n → ∃ a, p i a) → ∃ xs : List α, xs.length = n ∧ ∀ i a, xs[i]? = some a → p i a
  | 0, _ => ⟨[], rfl, fun i a h => by simp at h⟩
  | n + 1, h => by
    obtain ⟨xs, hl, hx⟩ := list_of n (fun i hi => h i (by omega))
    obtain ⟨a, ha⟩ := h n (by omega)
    refine ⟨xs ++ [a], by simp [hl], fun i b hb => ?_⟩
    rcases Nat.lt_trichotomy i n with hi | hi | hi
    · rw [List.getElem?_append_left (by omega)] at hb
      exact hx i b hb
    · subst hi
      rw [List.getElem?_append_right (by omega), hl] at hb
      simp at hb
      subst hb
      exact ha
    · rw [List.getElem?_append_right (by omega)] at hb
      rw [List.getElem?_eq_none (by simp; omega)] at hb
      cases hb

theorem weights_all {H : Type} {P : Program} {e : TypeId} : ∀ {ds : List (DataW H)} {d : DataW H}, d ∈ ds → ∀ n, n ∈ d.weights P e → n ∈ DataW.weightsAll P e ds
  | d0 :: ds, d, hd, n, hn => by
    simp only [DataW.weightsAll, List.mem_append]
    rcases List.mem_cons.1 hd with rfl | hd
    · exact .inl hn
    · exact .inr (weights_all hd n hn)

theorem rd_slice {α : Type} {P : Program} {t e : TypeId} {d : Kd α} {G : α → Prop} (B : Nat) (ht : P.underlying t = some (.slice e)) (hc : P.cellsOf e = d.sz) (hB : P.bytesOf e = B) (he : Rd P e d G) :
    Rd P t (Kd.slice e d) (fun l => (∀ a, a ∈ l → G a) ∧ l.length * B ≤ 140737488351232) := by
  intro H enc w base spare held fuel cs x h hz
  rcases Go.Deep.open_slice ht h with ⟨rfl, rfl⟩ | ⟨a, len, cap, m, n, D, Pl, rfl, hb, hl, hm, hmm, rfl, hx⟩
  · exact ⟨[], ⟨none, 0, rfl, Nat.le_refl _, rfl, by simp, fun hp => absurd hp (by simp)⟩, by simp, by simp⟩
  · have hlm : len ≤ m := by rw [hmm]; split <;> omega
    have hel : ∀ i, i < len → ∃ v : α, (∃ c, c.length = d.sz ∧ d.K w v c ∧ ∀ j u, c[j]? = some u → w.cell? (a.add (i * d.sz + j)) = some u) ∧ G v := by
      intro i hi
      obtain ⟨cs', h1, h2⟩ := hx i (by omega)
      obtain ⟨v, hK, hG⟩ := he H enc w base spare held n cs' (D i, Pl i) h2 (fun q hq => hz q (by
        simp only [DataW.weights, ht, List.mem_cons, List.mem_append]
        exact .inr (.inl (weights_all (List.mem_map.2 ⟨i, List.mem_range.2 hi, rfl⟩) q hq))))
      obtain ⟨_, hlen, hcell⟩ := World.cells?_some h1
      refine ⟨v, ⟨cs', by rw [hlen, hc], hK, fun j u hu => ?_⟩, hG⟩
      have hj : j < cs'.length := (List.getElem?_eq_some_iff.1 hu).1
      rw [← hu, ← hcell j (by omega), hc, Go.Deep.add_add]
    obtain ⟨xs, hxl, hxp⟩ := list_of len hel
    have hbig : len ≤ 9223372036854775807 := by simp only [maxLen] at hm; omega
    refine ⟨xs, ⟨some a, cap, by rw [hxl], by omega, rfl, by omega, fun _ => ⟨a, rfl, fun j p hj => (hxp j p hj).1⟩⟩, fun v hv => ?_, ?_⟩
    · obtain ⟨i, hi⟩ := List.mem_iff_getElem?.1 hv
      exact (hxp i v hi).2
    · have := hz ((((List.range len).map D).length + ((List.range (m - len)).map fun j => D (len + j)).length) * B) (by
        simp only [DataW.weights, ht, hB, List.mem_cons]
        exact .inl trivial)
      have h2 : len * B ≤ (((List.range len).map D).length + ((List.range (m - len)).map fun j => D (len + j)).length) * B := Nat.mul_le_mul_right _ (by simp)
      rw [hxl]
      exact Nat.le_trans h2 this

/-- An argument's weights are among the row's. -/
theorem arg_sized {H : Type} {P : Program} {ts : List TypeId} {ds : List (DataW H)} (hsz : (DataW.weightsEach P ts ds).all (· ≤ reachBytes) = true) {j : Nat} {t : TypeId} {d : DataW H} (ht : ts[j]? = some t) (hd : ds[j]? = some d) : ∀ n, n ∈ d.weights P t → n ≤ reachBytes :=
  fun n hn => by simpa using List.all_eq_true.1 hsz n (DataW.weights_mem_each ht hd n hn)

/-- A slice that came in. -/
theorem open_row {α : Type} {P : Program} {t e : TypeId} {d : Kd α} {G : List α → Prop} (hR : Rd P t (Kd.slice e d) G) {H : Type} {enc : TypeId × Value → H} {w : World} {base : Nat} {spare : Nat → Bool} {held : Bool} {A : Option Addr} {len cap : Nat} {x : DataW H} {ps : List MemPlace}
    (h : DataW.Trod enc P w base spare held t (.slice A len cap) x ps) (hz : ∀ n, n ∈ x.weights P t → n ≤ reachBytes) :
    ∃ l : List α, len = l.length ∧ l.length ≤ cap ∧ d.C w A l.length l ∧ G l := by
  obtain ⟨fuel, hf⟩ := h
  obtain ⟨l, ⟨A', c, he, hl, hC⟩, hG⟩ := hR H enc w base spare held fuel _ _ hf hz
  simp only [Value.cells, List.cons.injEq, Value.slice.injEq, and_true] at he
  obtain ⟨rfl, rfl, rfl⟩ := he
  exact ⟨l, rfl, hl, hC, hG⟩
/-! ### texts held against each other -/
theorem less_total : ∀ a b : List UInt8, (Op.bytesLess a b || a == b) = !(Op.bytesLess b a)
  | [], [] => rfl
  | [], _ :: _ => rfl
  | _ :: _, [] => rfl
  | a :: x, b :: y => by
    have ih := less_total x y
    simp only [Op.bytesLess, List.cons_beq_cons]
    rcases Nat.lt_trichotomy a.toNat b.toNat with h | h | h
    · have h1 : (decide (a < b)) = true := decide_eq_true (UInt8.lt_iff_toNat_lt.2 h)
      have h2 : (decide (b < a)) = false := decide_eq_false (fun q => by have := UInt8.lt_iff_toNat_lt.1 q; omega)
      have h3 : (b == a) = false := beq_eq_false_iff_ne.2 (fun q => by subst q; omega)
      simp [h1, h2, h3]
    · obtain rfl : a = b := UInt8.toNat_inj.1 h
      simp [ih]
    · have h1 : (decide (a < b)) = false := decide_eq_false (fun q => by have := UInt8.lt_iff_toNat_lt.1 q; omega)
      have h2 : (decide (b < a)) = true := decide_eq_true (UInt8.lt_iff_toNat_lt.2 h)
      have h3 : (a == b) = false := beq_eq_false_iff_ne.2 (fun q => by subst q; omega)
      simp [h1, h2, h3]
theorem str_geq (t : TypeId) (a b : ByteArray) : binOp .geq t (.string a) (.string b) = pure (.bool !(Op.bytesLess a.toList b.toList)) := by simp [binOp, Op.stringOp]
theorem str_gtr (t : TypeId) (a b : ByteArray) : binOp .gtr t (.string a) (.string b) = pure (.bool (Op.bytesLess b.toList a.toList)) := by
  have : binOp .gtr t (.string a) (.string b) = pure (.bool !(Op.bytesLess a.toList b.toList || a.toList == b.toList)) := by simp [binOp, Op.stringOp]
  rw [this, less_total, Bool.not_not]
theorem str_leq (t : TypeId) (a b : ByteArray) : binOp .leq t (.string a) (.string b) = pure (.bool !(Op.bytesLess b.toList a.toList)) := by
  have : binOp .leq t (.string a) (.string b) = pure (.bool (Op.bytesLess a.toList b.toList || a.toList == b.toList)) := by simp [binOp, Op.stringOp]
  rw [this, less_total]

/-! ### what calls through function values come to -/
/-- A call of a function that has a body enters it. -/
theorem goes_in {P : Program} {f : FuncId} {fn : Func} {c : Code} (hf : P.funcs[f]? = some fn) (hname : (fn.name == "runtime.NumGoroutine") = false) (hb : fn.body = some c) : ∀ (args : Array Value) (w : World), (callFunc f args).run P w = .ok (.enter f args) w := by
  intro args w
  have h1 : fn.name ≠ "runtime.NumGoroutine" := by simpa using hname
  simp [callFunc, hf, h1, hb, mark]
/-- The first place at which p holds, or -1. -/
def idxOf {α : Type} (p : α → Bool) (l : List α) : Int := match l.findIdx? p with | some i => (i : Int) | none => -1
theorem idxOf_hit {α : Type} {p : α → Bool} {l : List α} (z : α) {i : Nat} (hi : i < l.length) (hp : p (l.getD i z) = true) (hb : ∀ j, j < i → p (l.getD j z) = false) : idxOf p l = (i : Int) := by
  have : l.findIdx? p = some i := by
    rw [List.findIdx?_eq_some_iff_getElem]
    refine ⟨hi, ?_, fun j hj => ?_⟩
    · rw [← hp, List.getD_eq_getElem?_getD, List.getElem?_eq_getElem hi]
      rfl
    · have := hb j hj
      rw [List.getD_eq_getElem?_getD, List.getElem?_eq_getElem (by omega)] at this
      simpa using this
  unfold idxOf
  rw [this]
theorem idxOf_miss {α : Type} {p : α → Bool} {l : List α} (z : α) (hb : ∀ j, j < l.length → p (l.getD j z) = false) : idxOf p l = -1 := by
  have : l.findIdx? p = none := by
    rw [List.findIdx?_eq_none_iff]
    intro x hx
    obtain ⟨j, hj, rfl⟩ := List.mem_iff_getElem.1 hx
    have := hb j hj
    rw [List.getD_eq_getElem?_getD, List.getElem?_eq_getElem hj] at this
    simpa using this
  unfold idxOf
  rw [this]
end Go.Proofs.YtgapcmmhbegdeaaW.PrintWords
end
section
/- Rows of a call's own, told by the range in which their blocks lie; what a test against nil comes to. No condition. -/
namespace Go.Proofs.Ytgapcmmhbegdeaa.MOwn
open Go.RowKit Go.Proofs.YtgapcmmhbegdeaaW.PrintWords Go.Proofs.YtgapcmmhbegdeaaW.PrintLast Go.Proofs.YtgapcmmhbegdeaaW.PrintMore

/-- The world of a call, under a name. -/
theorem named {P : Program} {f : FuncId} {args : Array Value} {W : World} {Q : Ending → World → Prop} (h : ∀ W0, W0 = W → Calls P f args W0 Q) : Calls P f args W Q := h W rfl

section
variable {α β : Type} {d : Kd α} {d' : Kd β} {e e' base : Nat} {w w1 W : World} {v : Value} {xs ys : List α} {p p' P : Nat → Prop}
def RR (d : Kd α) (e : Nat) (w : World) (base : Nat) (p : Nat → Prop) (v : Value) (xs : List α) : Prop := d.R e w base p v xs ∧ ∀ k, p k → k < w.heap.size
def SS (d : Kd α) (e : Nat) (w : World) (base : Nat) (p : Nat → Prop) (v : Value) (xs : List α) : Prop := Kd.S d e w base p v xs ∧ ∀ k, p k → k < w.heap.size
theorem RR.new (h : d.R e w1 W.heap.size (fun _ => True) v xs) (hb : base ≤ W.heap.size) : ∃ p, RR d e w1 base p v xs ∧ (∀ k, p k → W.heap.size ≤ k) ∧ ∀ k, p k → ∃ q, q ∈ e :: d.E ∧ ∃ cells, w1.heap[k]? = some (.cells cells q (0, 0)) := ⟨_, ⟨Kd.R_lower (Kd.R_bound h) hb, fun _ hk => hk.2.2.1⟩, fun _ hk => hk.2.1, fun _ hk => hk.2.2.2⟩
theorem SS.new (h : Kd.S d e w1 W.heap.size (fun _ => True) v xs) (hb : base ≤ W.heap.size) : ∃ p, SS d e w1 base p v xs ∧ (∀ k, p k → W.heap.size ≤ k) ∧ ∀ k, p k → ∃ q, q ∈ e :: d.E ∧ ∃ cells, w1.heap[k]? = some (.cells cells q (0, 0)) := ⟨_, ⟨Kd.S_lower (Kd.S_bound h) hb, fun _ hk => hk.2.2.1⟩, fun _ hk => hk.2.1, fun _ hk => hk.2.2.2⟩
/-- Two rows that one call made, of other types. -/
theorem two {L L' : List Nat} (h : ∀ k, p k → ∃ q, q ∈ L ∧ ∃ cells, w.heap[k]? = some (.cells cells q (0, 0))) (h' : ∀ k, p' k → ∃ q, q ∈ L' ∧ ∃ cells, w.heap[k]? = some (.cells cells q (0, 0))) (ht : ∀ q, q ∈ L → q ∉ L') : ∀ k, p k → p' k → False := by
  intro k h1 h2
  obtain ⟨q, hq, _, hc⟩ := h k h1
  obtain ⟨q', hq', _, hc'⟩ := h' k h2
  rw [hc] at hc'
  injection hc' with hc'
  injection hc' with _ hc'
  subst hc'
  exact ht _ hq hq'
theorem RR.at (h : RR d e w base p v xs) (hw : W.heap = w.heap) : RR d e W base p v xs := ⟨Kd.R_step h.1 (fun k _ _ => by rw [hw]), by rw [hw]; exact h.2⟩
theorem SS.at (h : SS d e w base p v xs) (hw : W.heap = w.heap) : SS d e W base p v xs := ⟨Kd.S_step h.1 (fun k _ _ => by rw [hw]), by rw [hw]; exact h.2⟩
theorem RR.below (h : RR d e w base p v xs) (hb : Below w.heap.size w w1) : RR d e w1 base p v xs := ⟨Kd.R_below h.1 hb, fun k hk => Nat.lt_of_lt_of_le (h.2 k hk) hb.size⟩
theorem SS.below (h : SS d e w base p v xs) (hb : Below w.heap.size w w1) : SS d e w1 base p v xs := ⟨Kd.S_below h.1 hb, fun k hk => Nat.lt_of_lt_of_le (h.2 k hk) hb.size⟩
theorem RR.kept (h : RR d e w base p v xs) (hk : Kept w w1 P) (hne : ∀ k, p k → ¬ P k) : RR d e w1 base p v xs := ⟨Kd.R_kept h.1 hk hne, fun k h1 => Nat.lt_of_lt_of_le (h.2 k h1) hk.1⟩
theorem SS.kept (h : SS d e w base p v xs) (hk : Kept w w1 P) (hne : ∀ k, p k → ¬ P k) : SS d e w1 base p v xs := ⟨Kd.S_kept h.1 hk hne, fun k h1 => Nat.lt_of_lt_of_le (h.2 k h1) hk.1⟩
theorem RR.form (h : RR d e w base p v xs) : ∃ A c, v = .slice A xs.length c := Kd.R_slice h.1
theorem SS.form (h : SS d e w base p v xs) : ∃ A c, v = .slice A xs.length c := Kd.S_slice h.1
theorem RR.reads {A : Option Addr} {n c : Nat} (h : RR d e w base p (.slice A n c) xs) : n = xs.length ∧ n ≤ c ∧ d.C w A xs.length xs := Kd.R_reads' h.1
theorem SS.reads {A : Option Addr} {n c : Nat} (h : SS d e w base p (.slice A n c) xs) : n = xs.length ∧ n ≤ c ∧ d.C w A xs.length xs := Kd.S_reads' h.1
end
end Go.Proofs.Ytgapcmmhbegdeaa.MOwn
end
section
/- A map of the call's own from texts to numbers that counts them: what it reads as behind each step. No condition. -/
namespace Go.Proofs.Ytgapcmmhbegdeaa.MMap
open Go.RowKit Go.WideMaps Go.Maps

def key (s : ByteArray) : Lit := .string s.data.toList
/-- How often a text stands in a list. -/
def cnt (l : List ByteArray) (s : ByteArray) : Int := ((l.filter (fun x => x.toList == s.toList)).length : Int)
theorem key_ne {s x : ByteArray} (h : (s.toList == x.toList) = false) : key x ≠ key s := by
  intro e
  unfold key at e
  injection e with e
  rw [← ByteArray.toList_eq, ← ByteArray.toList_eq] at e
  rw [e] at h
  simp at h
theorem key_eq {s x : ByteArray} (h : (s.toList == x.toList) = true) : key x = key s := by
  unfold key
  rw [← ByteArray.toList_eq, ← ByteArray.toList_eq, eq_of_beq h]
theorem cnt_step (l : List ByteArray) (s x : ByteArray) : cnt (l ++ [s]) x = if (s.toList == x.toList) = true then cnt l x + 1 else cnt l x := by
  unfold cnt
  rw [List.filter_append, List.length_append]
  split
  · rename_i h
    rw [List.filter_cons, if_pos h]
    simp
  · rename_i h
    rw [List.filter_cons, if_neg h]
    simp
theorem cnt_same {l : List ByteArray} {s x : ByteArray} (h : (s.toList == x.toList) = true) : cnt l x = cnt l s := by
  unfold cnt
  rw [eq_of_beq h]
theorem cnt_le (l : List ByteArray) (s : ByteArray) : 0 ≤ cnt l s ∧ cnt l s ≤ (l.length : Int) := by
  unfold cnt
  have := List.length_filter_le (fun x => x.toList == s.toList) l
  omega
/-- The map reads as the counts of a list. -/
def Has (l : List ByteArray) (D : DataW Unit) : Prop := IsMap D ∧ ∀ s : ByteArray, D.atKey (key s) (.lit (.int .i64 0)) = .lit (.int .i64 (cnt l s))
theorem Has.start : Has [] (.map []) := ⟨isMap_empty, fun _ => rfl⟩
theorem Has.step {l : List ByteArray} {D : DataW Unit} (h : Has l D) (s : ByteArray) : Has (l ++ [s]) (D.put (key s) (.lit (.int .i64 (cnt l s + 1)))) := by
  refine ⟨h.1.put _ _, fun x => ?_⟩
  rw [cnt_step]
  cases hq : s.toList == x.toList with
  | true =>
    rw [key_eq hq, atKey_put_same h.1 (by unfold key; trivial), if_pos rfl, cnt_same hq]
  | false =>
    rw [atKey_put_other (key_ne hq), h.2 x]
    simp
theorem own_below {P : Program} {k : TypeId} {R : Value → Option (DataW Unit × List MemPlace)} {w w' : World} {b n : Nat} {D : DataW Unit} (h : w.ownsMap P k R b n D) (hb : Below w.heap.size w w') : w'.ownsMap P k R b n D := by
  have hlt := h.lt
  obtain ⟨es, clock, h1, h2⟩ := h
  exact ⟨es, clock, (hb.block b hlt).trans h1, h2⟩
theorem law {P : Program} {k : TypeId} (hk : P.underlying k = some .string) : Keyed P k := string_keyed hk
end Go.Proofs.Ytgapcmmhbegdeaa.MMap
end
section
/- 'm[k]++' told by two steps (the entry, then the store into it) and a look-up that may stand between them: what each finds. No condition. -/
namespace Go.Proofs.Ytgapcmmhbegdeaa.MEnt
open Go.WideMaps Go.Maps Go.WideElems Go.ChangeShapes Go.WideShapes Go.MapKept Go.ChangeMaps

theorem steps {P : Program} {w : World} {t k e : TypeId} (K : KeyLaw P k) (ht : P.underlying t = some (.map k e)) (he : P.underlying e = some (.int .i64)) (hz : ∀ u : World, (zeroValue e).run P u = .ok (.int .i64 0) u)
    {b n : Nat} {D : DataW Unit} (hown : w.ownsMap P k (plainElem P e) b n D) (hn : n < maxLen) {key : Value} {kl : Lit} (hkey : keyOf P k key = some kl) :
    ∃ (c : Int) (v0 : Value) (st : Nat) (w2 : World), (Instr.lookup t (.map (some b)) key false).run P w = .ok (.int .i64 c) w ∧ D.atKey kl (.lit (.int .i64 0)) = .lit (.int .i64 c) ∧
      (Instr.mapEntry t (.map (some b)) key).run P w = .ok (.tuple #[v0, goInt st]) w2 ∧ (Instr.lookup t (.map (some b)) key false).run P w2 = .ok (.int .i64 c) w2 ∧ w.grownBy w2 (some b) ∧
      ∀ d : Int, (Lit.int .i64 d).wf = true → ∃ w3, (Instr.entryStore t (.map (some b)) (goInt st) (.int .i64 d)).run P w2 = .ok () w3 ∧ w3.ownsMap P k (plainElem P e) b (n + 1) (D.put kl (.lit (.int .i64 d))) ∧ w.grownBy w3 (some b) := by
  obtain ⟨c, hl, hat, hwc⟩ := hown.lookup_int (Keyed.of_law K) ht he (hz w) hkey
  have hupd := fun d (hd : (Lit.int .i64 d).wf = true) => hown.update (Keyed.of_law K) ht hn hkey (plainElem_int he hd)
  obtain ⟨es, clock, hb, F, hs, hD⟩ := hown
  obtain ⟨v0, st, es1, clock1, h1, h2, h3⟩ := entry_then_store K ht hz hb F hkey
  have hg2 : w.grownBy (setBlock w b (.map es1 clock1)) (some b) := ⟨rfl, rfl, rfl, by simp [setBlock], fun i _ hi => heap_setBlock_other hb _ (fun e => hi (by rw [e]))⟩
  refine ⟨c, v0, st, setBlock w b (.map es1 clock1), hl, hat, h1, ?_, hg2, fun d hd => ?_⟩
  · rcases K.find w hkey es.toList F.keys with ⟨f1, f2⟩ | ⟨j, e0, f1, f2, f3⟩
    · have hm : (Instr.mapEntry t (.map (some b)) key).run P w = .ok (.tuple #[.int .i64 0, goInt clock]) (setBlock w b (.map (es.push ⟨key, .int .i64 0, clock⟩) (clock + 1))) := by
        simp [Instr.mapEntry, run_underlying ht, MapKept.run_getObj_map hb, K.check w false hkey, f1, hz, MapKept.run_setObj_map _ hb, Result.andThen, setBlock]
      have hu : (Instr.mapUpdate t (.map (some b)) key (.int .i64 0)).run P w = .ok () (setBlock w b (.map (es.push ⟨key, .int .i64 0, clock⟩) (clock + 1))) := by
        simp [Instr.mapUpdate, run_underlying ht, MapKept.run_getObj_map hb, K.check w false hkey, f1, MapKept.run_setObj_map _ hb, Result.andThen, setBlock]
      have hlk : (Instr.lookup t (.map (some b)) key false).run P w = .ok (.int .i64 0) w := by
        simp [Instr.lookup, run_underlying ht, MapKept.run_getObj_map hb, K.check w _ hkey, f1, hz, Result.andThen]
      rw [hm] at h1
      have e1 : setBlock w b (.map (es.push ⟨key, .int .i64 0, clock⟩) (clock + 1)) = setBlock w b (.map es1 clock1) := by injection h1
      obtain ⟨w', hw1, hw2, _⟩ := hupd 0 (by decide)
      rw [hu] at hw1
      have e2 : setBlock w b (.map (es.push ⟨key, .int .i64 0, clock⟩) (clock + 1)) = w' := by injection hw1
      rw [← e1, e2]
      obtain ⟨c2, g1, g2, _⟩ := hw2.lookup_int (Keyed.of_law K) ht he (hz w') hkey
      rw [hlk] at hl
      have e3 : c = 0 := by injection hl with h _; injection h with _ h; exact h.symm
      rw [atKey_put_same ⟨_, hD⟩ ((Keyed.of_law K).key hkey)] at g2
      have e4 : c2 = 0 := by injection g2 with h; injection h with _ h; exact h.symm
      rw [e3, ← e4]
      exact g1
    · have hm : ∃ st', (Instr.mapEntry t (.map (some b)) key).run P w = .ok (.tuple #[e0.val, goInt st']) (setBlock w b (.map es clock)) := by
        have hj : es[j]? = some e0 := by simpa using f2
        have hsame : es.modify j (fun e => { e with key := key }) = es := by
          apply Array.ext'
          rw [Array.toList_modify, modify_eq_set _ _ _ _ f2]
          have : ({ e0 with key := key } : MapEntry) = e0 := by rw [← f3]
          rw [this]
          exact set_self _ _ _ f2
        exact ⟨e0.born, by simp [Instr.mapEntry, run_underlying ht, MapKept.run_getObj_map hb, K.check w false hkey, f1, hj, f3, K.stays w hkey, hsame, MapKept.run_setObj_map _ hb, Result.andThen, setBlock]⟩
      obtain ⟨st', hm⟩ := hm
      rw [hm] at h1
      have e1 : setBlock w b (.map es clock) = setBlock w b (.map es1 clock1) := by injection h1
      have e2 : setBlock w b (.map es clock) = w := by
        have h4 : w.heap.setIfInBounds b (.map es clock) = w.heap := by
          apply Array.ext_getElem?
          intro i
          rw [Array.getElem?_setIfInBounds]
          by_cases h5 : b = i
          · subst h5
            obtain ⟨hlt, hg⟩ := Array.getElem?_eq_some_iff.1 hb
            rw [if_pos rfl, if_pos hlt]
            exact hb.symm
          · rw [if_neg h5]
        unfold setBlock
        rw [h4]
      rw [← e1, e2]
      exact hl
  · obtain ⟨w', hw1, hw2, hw3⟩ := hupd d hd
    obtain ⟨es', clock', k1, k2⟩ := h3 (setBlock w b (.map es1 clock1)) (.int .i64 d) (heap_setBlock_same hb _)
    rw [hw1] at k2
    have e1 : w' = setBlock w b (.map es' clock') := by injection k2
    have e2 : setBlock (setBlock w b (.map es1 clock1)) b (.map es' clock') = setBlock w b (.map es' clock') := by
      simp [setBlock]
    rw [e2] at k1
    subst e1
    exact ⟨_, k1, hw2, hw3⟩

/-! ### Pairs of texts as keys -/
abbrev Duo := ByteArray × ByteArray
def key (p : Duo) : Lit := .string (keyBytes [.string p.1.data.toList, .string p.2.data.toList])
/-- What a type of keys says of pairs of texts. -/
structure Pairs (P : Program) (k : TypeId) : Prop where
  law : KeyLaw P k
  into : ∀ p : Duo, p.1.size ≤ maxLen → p.2.size ≤ maxLen → keyOf P k (.agg #[.string p.1, .string p.2]) = some (key p)
  out : ∀ v kl, keyOf P k v = some kl → ∃ p : Duo, v = .agg #[.string p.1, .string p.2] ∧ kl = key p ∧ p.1.size ≤ maxLen ∧ p.2.size ≤ maxLen
theorem Pairs.of {P : Program} {k e : TypeId} (law : KeyLaw P k) (hu : P.underlying k = some (.array 2 e)) (he : P.underlying e = some .string) (h1 : P.cellsOf e = 1) (h2 : P.cellsOf k = 2) (hkt : P.keyType k = true) (hsz : ∃ m, P.types.size = m + 1) : Pairs P k where
  law := law
  into p ha hb := by
    obtain ⟨m, hm⟩ := hsz
    unfold keyOf
    simp only [hu]
    rw [if_pos (by simp [hkt, Value.formed, hu, h2]), hm]
    unfold Program.keyLits
    simp only [hu, Value.cells]
    rw [if_pos (by rw [h2]; rfl), show List.range 2 = [0, 1] from rfl, List.mapM_cons, List.mapM_cons, List.mapM_nil]
    simp [h1, Program.keyLits, he, ha, hb, key]
  out v kl h := by
    obtain ⟨m, hm⟩ := hsz
    unfold keyOf at h
    simp only [hu] at h
    split at h
    rotate_left
    · exact absurd h (by simp)
    rename_i hf
    simp only [Bool.and_eq_true] at hf
    have hf2 := hf.2
    rw [hm] at h
    unfold Program.keyLits at h
    simp only [hu] at h
    cases v <;> simp [Value.formed, hu, h2] at hf2
    rename_i cs
    obtain ⟨l⟩ := cs
    match l, hf2 with
    | [c0, c1], _ =>
      replace h : (if ([c0, c1] : List Value).length = P.cellsOf k then ((List.range 2).mapM fun i => P.keyLits (m + 1) e ((([c0, c1] : List Value).drop (i * P.cellsOf e)).take (P.cellsOf e))).map List.flatten else none).map (fun ls => Lit.string (keyBytes ls)) = some kl := h
      rw [if_pos (by rw [h2]; rfl), show List.range 2 = [0, 1] from rfl, List.mapM_cons, List.mapM_cons, List.mapM_nil] at h
      simp only [bind, Option.bind_eq_some_iff, pure, Option.some.injEq, h1, Option.map_eq_some_iff] at h
      obtain ⟨ls, ⟨xs, ⟨y0, g0, _, ⟨y1, g1, _, rfl, rfl⟩, rfl⟩, rfl⟩, rfl⟩ := h
      simp at g0 g1
      have hs : ∀ (c : Value) (y : List Lit), P.keyLits (m + 1) e [c] = some y → ∃ s : ByteArray, c = .string s ∧ s.size ≤ maxLen ∧ y = [.string s.data.toList] := by
        intro c y hy
        unfold Program.keyLits at hy
        cases c <;> simp [he] at hy
        obtain ⟨hy1, rfl⟩ := hy
        exact ⟨_, rfl, hy1, rfl⟩
      obtain ⟨s0, rfl, z0, rfl⟩ := hs _ _ g0
      obtain ⟨s1, rfl, z1, rfl⟩ := hs _ _ g1
      exact ⟨(s0, s1), rfl, rfl, z0, z1⟩
theorem Pairs.inj {P : Program} {k : TypeId} (K : Pairs P k) {p q : Duo} (h1 : p.1.size ≤ maxLen) (h2 : p.2.size ≤ maxLen) (h3 : q.1.size ≤ maxLen) (h4 : q.2.size ≤ maxLen) (h : key p = key q) : p = q := by
  have e := K.law.inj (K.into p h1 h2) (h ▸ K.into q h3 h4)
  simp only [Value.agg.injEq] at e
  have e2 := congrArg Array.toList e
  simp at e2
  exact Prod.ext e2.1 e2.2

/-! ### The counts of pairs in a list -/
def same (p q : Duo) : Bool := p.1.toList == q.1.toList && p.2.toList == q.2.toList
theorem text_eq {a b : ByteArray} (h : a.toList = b.toList) : a = b := by
  rw [ByteArray.toList_eq, ByteArray.toList_eq] at h
  exact ByteArray.ext (Array.toList_inj.1 h)
theorem same_iff {p q : Duo} : same p q = true ↔ p = q := by
  unfold same
  rw [Bool.and_eq_true, beq_iff_eq, beq_iff_eq]
  exact ⟨fun h => Prod.ext (text_eq h.1) (text_eq h.2), fun h => by rw [h]; exact ⟨rfl, rfl⟩⟩
def cnt (l : List Duo) (p : Duo) : Int := ((l.filter (fun q => same q p)).length : Int)
theorem cnt_snoc (l : List Duo) (q p : Duo) : cnt (l ++ [q]) p = if same q p = true then cnt l p + 1 else cnt l p := by
  unfold cnt
  rw [List.filter_append, List.length_append, List.filter_cons]
  split
  · simp
  · simp
theorem cnt_le (l : List Duo) (p : Duo) : 0 ≤ cnt l p ∧ cnt l p ≤ (l.length : Int) := by
  unfold cnt
  have := List.length_filter_le (fun q => same q p) l
  omega
theorem cnt_pos {l : List Duo} {p : Duo} (h : p ∈ l) : 1 ≤ cnt l p := by
  unfold cnt
  have : 0 < (l.filter (fun q => same q p)).length := List.length_pos_of_mem (List.mem_filter.2 ⟨h, same_iff.2 rfl⟩)
  omega
theorem cnt_zero {l : List Duo} {p : Duo} (h : p ∉ l) : cnt l p = 0 := by
  unfold cnt
  have e : l.filter (fun q => same q p) = [] := List.filter_eq_nil_iff.2 (fun q hq hs => h (by have e := same_iff.1 hs; rw [← e]; exact hq))
  rw [e]
  rfl
/-- The map reads as the counts of a list. -/
def Has (l : List Duo) (D : DataW Unit) : Prop := IsMap D ∧ (∀ p : Duo, p ∈ l → p.1.size ≤ maxLen ∧ p.2.size ≤ maxLen) ∧ ∀ p : Duo, p.1.size ≤ maxLen → p.2.size ≤ maxLen → (p ∈ l → ∀ zd, D.atKey (key p) zd = .lit (.int .i64 (cnt l p))) ∧ (p ∉ l → ∀ zd, D.atKey (key p) zd = zd)
theorem Has.start : Has [] (.map []) := ⟨isMap_empty, fun _ h => absurd h (by simp), fun _ _ _ => ⟨fun h => absurd h (by simp), fun _ _ => rfl⟩⟩
theorem Has.zero {l : List Duo} {D : DataW Unit} (h : Has l D) (p : Duo) (h1 : p.1.size ≤ maxLen) (h2 : p.2.size ≤ maxLen) : D.atKey (key p) (.lit (.int .i64 0)) = .lit (.int .i64 (cnt l p)) := by
  by_cases hp : p ∈ l
  · exact (h.2.2 p h1 h2).1 hp _
  · rw [(h.2.2 p h1 h2).2 hp, cnt_zero hp]
theorem Has.step {P : Program} {k : TypeId} (K : Pairs P k) {l : List Duo} {D : DataW Unit} (h : Has l D) (q : Duo) (h1 : q.1.size ≤ maxLen) (h2 : q.2.size ≤ maxLen) : Has (l ++ [q]) (D.put (key q) (.lit (.int .i64 (cnt l q + 1)))) := by
  refine ⟨h.1.put _ _, fun p hp => ?_, fun p g1 g2 => ?_⟩
  · rcases List.mem_append.1 hp with hp | hp
    · exact h.2.1 p hp
    · obtain rfl := List.mem_singleton.1 hp
      exact ⟨h1, h2⟩
  · by_cases e : q = p
    · subst e
      refine ⟨fun _ zd => ?_, fun hn => absurd (List.mem_append_right _ (List.mem_singleton.2 rfl)) hn⟩
      rw [atKey_put_same h.1 (by unfold key; trivial), cnt_snoc, if_pos (same_iff.2 rfl)]
    · have hk : key p ≠ key q := fun hk => e (K.inj g1 g2 h1 h2 hk).symm
      refine ⟨fun hp zd => ?_, fun hp zd => ?_⟩
      · rw [atKey_put_other hk, cnt_snoc, if_neg (fun hs => e (same_iff.1 hs))]
        rcases List.mem_append.1 hp with hp | hp
        · exact (h.2.2 p g1 g2).1 hp zd
        · exact absurd (List.mem_singleton.1 hp).symm e
      · rw [atKey_put_other hk]
        exact (h.2.2 p g1 g2).2 (fun hm => hp (List.mem_append_left _ hm)) zd
/-- What the loop over the map comes upon. -/
theorem Has.come {l : List Duo} {D : DataW Unit} (h : Has l D) {p : Duo} (h1 : p.1.size ≤ maxLen) (h2 : p.2.size ≤ maxLen) {c : Int} (hc : ∀ zd, D.atKey (key p) zd = .lit (.int .i64 c)) : p ∈ l ∧ c = cnt l p := by
  by_cases hp : p ∈ l
  · have e := ((h.2.2 p h1 h2).1 hp (.map [])).symm.trans (hc _)
    injection e with e
    injection e with _ e
    exact ⟨hp, e.symm⟩
  · have e := ((h.2.2 p h1 h2).2 hp (.map [])).symm.trans (hc _)
    cases e
theorem Has.there {l : List Duo} {D : DataW Unit} (h : Has l D) {p : Duo} (hp : p ∈ l) : Maps.has D (key p) = true :=
  has_true_of_atKey ((h.2.2 p (h.2.1 p hp).1 (h.2.1 p hp).2).1 hp)

/-! ### The best of the pairs: most often there, and first in order among these -/
def lt (p q : Duo) : Bool := Op.bytesLess p.1.toList q.1.toList || (p.1.toList == q.1.toList && Op.bytesLess p.2.toList q.2.toList)
theorem less_iff : ∀ a b : List UInt8, Op.bytesLess a b = true ↔ a < b
  | [], [] => by simp [Op.bytesLess]
  | _ :: _, [] => by simp [Op.bytesLess]
  | [], _ :: _ => by simp [Op.bytesLess]
  | x :: a, y :: b => by
    have ih := less_iff a b
    simp only [Op.bytesLess, Bool.or_eq_true, Bool.and_eq_true, decide_eq_true_eq, beq_iff_eq, ih, List.cons_lt_cons_iff]
theorem lt_iff {p q : Duo} : lt p q = true ↔ p.1.toList < q.1.toList ∨ (p.1.toList = q.1.toList ∧ p.2.toList < q.2.toList) := by
  unfold lt
  rw [Bool.or_eq_true, Bool.and_eq_true, beq_iff_eq, less_iff, less_iff]
theorem lt_irrefl (p : Duo) : ¬ lt p p = true := by
  rw [lt_iff]
  rintro (h | h)
  · exact List.lt_irrefl _ h
  · exact List.lt_irrefl _ h.2
theorem lt_trans {p q r : Duo} (h1 : lt p q = true) (h2 : lt q r = true) : lt p r = true := by
  rw [lt_iff] at *
  rcases h1 with h1 | ⟨e1, h1⟩
  · rcases h2 with h2 | ⟨e2, h2⟩
    · exact .inl (List.lt_trans h1 h2)
    · exact .inl (e2 ▸ h1)
  · rcases h2 with h2 | ⟨e2, h2⟩
    · exact .inl (e1 ▸ h2)
    · exact .inr ⟨e1.trans e2, List.lt_trans h1 h2⟩
theorem lt_total {p q : Duo} (h1 : ¬ lt p q = true) (h2 : ¬ lt q p = true) : p = q := by
  rw [lt_iff] at *
  have e1 : p.1.toList = q.1.toList := List.le_antisymm (fun h => h2 (.inl h)) (fun h => h1 (.inl h))
  have e2 : p.2.toList = q.2.toList := List.le_antisymm (fun h => h2 (.inr ⟨e1.symm, h⟩)) (fun h => h1 (.inr ⟨e1, h⟩))
  exact Prod.ext (text_eq e1) (text_eq e2)
def bt (p : Duo) (n : Int) (b : Duo × Int) : Bool := decide (b.2 < n) || (decide (n = b.2) && lt p b.1)
theorem bt_iff {p : Duo} {n : Int} {b : Duo × Int} : bt p n b = true ↔ b.2 < n ∨ (n = b.2 ∧ lt p b.1 = true) := by
  unfold bt
  simp
theorem bt_irrefl (p : Duo) (n : Int) : ¬ bt p n (p, n) = true := by
  rw [bt_iff]
  rintro (h | h)
  · exact absurd h (Int.lt_irrefl _)
  · exact lt_irrefl _ h.2
/-- What was no better is not better than the next one either. -/
theorem bt_next {p q : Duo} {n m : Int} {b : Duo × Int} (h1 : ¬ bt p n b = true) (h2 : bt q m b = true) : ¬ bt p n (q, m) = true := by
  intro h3
  apply h1
  rw [bt_iff] at *
  rcases h3 with h3 | ⟨e3, h3⟩
  · rcases h2 with h2 | ⟨e2, h2⟩
    · exact .inl (Int.lt_trans h2 h3)
    · exact .inl (e2 ▸ h3)
  · rcases h2 with h2 | ⟨e2, h2⟩
    · exact .inl (e3 ▸ h2)
    · exact .inr ⟨e3.trans e2, lt_trans h3 h2⟩
def init : Duo × Int := ((⟨#[]⟩, ⟨#[]⟩), 0)
def best (l : List Duo) : List Duo → Duo × Int → Duo × Int
  | [], b => b
  | p :: r, b => best l r (if bt p (cnt l p) b = true then (p, cnt l p) else b)
/-- One of the list, or the beginning. -/
def One (l : List Duo) (b : Duo × Int) : Prop := b = init ∨ (b.1 ∈ l ∧ b.2 = cnt l b.1)
/-- The best, but for those that are still to come. -/
def Top (l : List Duo) (left : Duo → Prop) (b : Duo × Int) : Prop := One l b ∧ ∀ p ∈ l, ¬ left p → ¬ bt p (cnt l p) b = true
theorem best_top (l : List Duo) : ∀ (r : List Duo) (b : Duo × Int), (∀ p ∈ r, p ∈ l) → Top l (fun p => p ∈ r) b → Top l (fun _ => False) (best l r b)
  | [], b, _, h => ⟨h.1, fun p hp _ => h.2 p hp (by simp)⟩
  | q :: r, b, hm, h => by
    refine best_top l r _ (fun p hp => hm p (List.mem_cons_of_mem _ hp)) ?_
    by_cases hq : bt q (cnt l q) b = true
    · rw [if_pos hq]
      refine ⟨.inr ⟨hm q (List.mem_cons_self ..), rfl⟩, fun p hp hn => ?_⟩
      by_cases e : p = q
      · subst e
        exact bt_irrefl _ _
      · exact bt_next (h.2 p hp (fun hc => (List.mem_cons.1 hc).elim e hn)) hq
    · rw [if_neg hq]
      refine ⟨h.1, fun p hp hn => ?_⟩
      by_cases e : p = q
      · subst e
        exact hq
      · exact h.2 p hp (fun hc => (List.mem_cons.1 hc).elim e hn)
theorem Top.start (l : List Duo) (left : Duo → Prop) (h : ∀ p ∈ l, left p) : Top l left init := ⟨.inl rfl, fun p hp hn => absurd (h p hp) hn⟩
theorem Top.unique {l : List Duo} {b c : Duo × Int} (hb : Top l (fun _ => False) b) (hc : Top l (fun _ => False) c) : b = c := by
  have aux : ∀ d : Duo × Int, Top l (fun _ => False) d → d = init → ∀ p ∈ l, False := by
    intro d hd e p hp
    subst e
    exact hd.2 p hp id (bt_iff.2 (.inl (by have := cnt_pos hp; show (0 : Int) < _; omega)))
  rcases hb.1 with e1 | ⟨m1, n1⟩
  · rcases hc.1 with e2 | ⟨m2, n2⟩
    · rw [e1, e2]
    · exact (aux b hb e1 _ m2).elim
  · rcases hc.1 with e2 | ⟨m2, n2⟩
    · exact (aux c hc e2 _ m1).elim
    · have h1 := hb.2 _ m2 id
      have h2 := hc.2 _ m1 id
      rw [← n2] at h1
      rw [← n1] at h2
      rw [bt_iff] at h1 h2
      have hn : b.2 = c.2 := Int.le_antisymm (Int.not_lt.1 (fun h => h2 (.inl h))) (Int.not_lt.1 (fun h => h1 (.inl h)))
      have hp : b.1 = c.1 := lt_total (fun h => h2 (.inr ⟨hn, h⟩)) (fun h => h1 (.inr ⟨hn.symm, h⟩))
      exact Prod.ext hp hn
/-- A pair that has come: it takes the place, or does not. -/
theorem Top.step {l : List Duo} {left : Duo → Prop} {b : Duo × Int} (h : Top l left b) (q : Duo) (hq : q ∈ l) : Top l (fun p => left p ∧ p ≠ q) (if bt q (cnt l q) b = true then (q, cnt l q) else b) := by
  by_cases hb : bt q (cnt l q) b = true
  · rw [if_pos hb]
    refine ⟨.inr ⟨hq, rfl⟩, fun p hp hn => ?_⟩
    by_cases e : p = q
    · subst e
      exact bt_irrefl _ _
    · exact bt_next (h.2 p hp (fun hl => hn ⟨hl, e⟩)) hb
  · rw [if_neg hb]
    refine ⟨h.1, fun p hp hn => ?_⟩
    by_cases e : p = q
    · subst e
      exact hb
    · exact h.2 p hp (fun hl => hn ⟨hl, e⟩)
theorem Top.end_ {l : List Duo} {left : Duo → Prop} {b : Duo × Int} (h : Top l left b) (hn : ∀ p, ¬ left p) : b = best l l init :=
  Top.unique ⟨h.1, fun p hp _ => h.2 p hp (hn p)⟩ (best_top l l init (fun _ h => h) (Top.start _ _ (fun _ h => h)))
end Go.Proofs.Ytgapcmmhbegdeaa.MEnt
end
section
/- Statements that write several cells in an order that Go leaves open: the tactics for them. No condition. -/
namespace Go.Proofs.Ytgapcmmhbegdeaa.MReg
/-- A name that a text leans on when it needs these imports. -/
theorem here : True := trivial
/-- A write behind drawn orders: the orders drawn behind the write. -/
theorem set_drewN (w : World) (n : Nat) (p : Addr) (v : Value) : (w.drewN n).setCell p v = (w.setCell p v).drewN n := by
  unfold World.setCell
  rfl
end Go.Proofs.Ytgapcmmhbegdeaa.MReg
end
section
/- Phrases of tactics that the printed parts repeat word by word, each under a name: what they prove is told where they are used. No condition. -/
set_option linter.unusedVariables false
namespace Go.Proofs.Ytgapcmmhbegdeaa.G
theorem q1_ {P : Prop} (h : P := by first | rfl | (simp;done) | (simp [*];done)) : P := h
theorem q2_ {P : Prop} (h : P := by first | (with_reducible assumption) | assumption) : P := h
theorem q3_ {P : Prop} (h : P := by repeat (first | exact Drawn0.refl _ | apply Drawn0.step)) : P := h
theorem q4_ {P : Prop} (h : P := by first | rfl | (simp [errW_none,errW_some] <;> rfl) | (simp [*,errW_none,errW_some] <;> rfl)) : P := h
theorem q5_ {P : Prop} (h : P := by (with_reducible repeat (first | apply Kd.R_alloc | apply Kd.R_drewN | apply Kd.R_drew));exact HO_4.out) : P := h
theorem q6_ {P : Prop} (h : P := by (with_reducible repeat (first | apply Kd.Q_alloc | apply Kd.Q_drewN | apply Kd.Q_drew));exact HO_5.out) : P := h
theorem q7_ {P : Prop} (h : P := by (with_reducible repeat (first | apply Kd.R_alloc | apply Kd.R_drewN | apply Kd.R_drew));exact HO_5.out) : P := h
theorem q8_ {P : Prop} (h : P := by (with_reducible repeat (first | apply Kd.Q_alloc | apply Kd.Q_drewN | apply Kd.Q_drew));exact HO_6.out) : P := h
theorem q9_ {P : Prop} (h : P := by (with_reducible repeat (first | apply Kd.R_alloc | apply Kd.R_drewN | apply Kd.R_drew));exact HO106.out) : P := h
theorem q10_ {P : Prop} (h : P := by (with_reducible repeat (first | apply Kd.R_alloc | apply Kd.R_drewN | apply Kd.R_drew));exact HO104.out) : P := h
theorem q11_ {P : Prop} (h : P := by (with_reducible repeat (first | apply Kd.R_alloc | apply Kd.R_drewN | apply Kd.R_drew));exact HO103.out) : P := h
theorem q12_ {P : Prop} (h : P := by (with_reducible repeat (first | apply Kd.R_alloc | apply Kd.R_drewN | apply Kd.R_drew));exact HO_10.out) : P := h
theorem q13_ {P : Prop} (h : P := by (with_reducible repeat (first | apply Kd.R_alloc | apply Kd.R_drewN | apply Kd.R_drew));exact HO112.out) : P := h
theorem q14_ {P : Prop} (h : P := by (with_reducible repeat (first | apply Kd.R_alloc | apply Kd.R_drewN | apply Kd.R_drew));exact HO110.out) : P := h
theorem q15_ {P : Prop} (h : P := by (with_reducible repeat (first | apply Kd.Q_alloc | apply Kd.Q_drewN | apply Kd.Q_drew));exact HO109.out) : P := h
theorem q16_ {P : Prop} (h : P := by (with_reducible repeat (first | apply Kd.R_alloc | apply Kd.R_drewN | apply Kd.R_drew));exact HO_15.out) : P := h
theorem q17_ {P : Prop} (h : P := by (with_reducible repeat (first | refine blk_drewN ?_ _ | refine blk_drew ?_ | refine blk_alloc ?_ _));exact BK127.out) : P := h
theorem q18_ {P : Prop} (h : P := by (with_reducible repeat (first | refine blk_drewN ?_ _ | refine blk_drew ?_ | refine blk_alloc ?_ _));exact BK101.out) : P := h
theorem q19_ {P : Prop} (h : P := by repeat (first | (with_reducible first | exact HB.out | apply below_alloc | apply pw_below_drewN | apply below_drew1) | exact HB.out)) : P := h
theorem q20_ {P : Prop} (h : P := by (try simp only [List.map_toArray,List.map_cons,List.map_nil]);first | done | rfl | (simp only [List.length_drop,List.length_take];rfl)) : P := h
theorem q21_ {P : Prop} (h : P := by first | exact Kd.R_nil _ _ _ _ _ | exact Kd.N_nil _ _ _ _ _ | exact Kd.V_nil _ _ _ _ _ | exact Kd.Q_nil _ _ _ _ _ | exact Kd.S_nil _ _ _ _ _) : P := h
theorem q22_ {P : Prop} (h : P := by subst hW;repeat (first | (with_reducible first | exact HB.out | apply below_alloc | apply pw_below_drewN | apply below_drew1) | exact HB.out)) : P := h
theorem q23_ {P : Prop} (h : P := by repeat (first | (with_reducible first | exact HK.out | apply KeepBut.set_ | apply keep_drewN | apply keep_drew | apply keep_alloc) | exact HK.out)) : P := h
theorem q24_ {P : Prop} (h : P := by repeat (first | (with_reducible first | exact HB.out | apply below_alloc | apply pw_below_drewN | apply below_drew1 | refine below_set ?_ GE101.out) | exact HB.out)) : P := h
theorem q25_ {P : Prop} (h : P := by repeat (first | (with_reducible first | exact HB.out | apply below_alloc | apply pw_below_drewN | apply below_drew1 | refine below_set ?_ GE102.out) | exact HB.out)) : P := h
theorem q26_ {P : Prop} (h : P := by repeat (first | (with_reducible first | exact HB.out | apply below_alloc | apply pw_below_drewN | apply below_drew1 | refine below_set ?_ (IsS145.ge HI0.out)) | exact HB.out)) : P := h
theorem q27_ {P : Prop} (h : P := by repeat (first | (with_reducible first | exact HI0.out | apply IsS145.alloc | apply IsS145.drewN | apply IsS145.drew | apply IsS145.set_1 | apply IsS145.set_2) | exact HI0.out)) : P := h
theorem q28_ {P : Prop} (h : P := by repeat (first | (with_reducible first | exact HB.out | apply below_alloc | apply pw_below_drewN | apply below_drew1 | refine below_set ?_ (IsS145.ge HI101.out)) | exact HB.out)) : P := h
theorem q29_ {P : Prop} (h : P := by repeat (first | (with_reducible first | exact HK.out | apply KeepBut.set_ | apply keep_drewN | apply keep_drew | apply keep_alloc | refine keep_far ?_ GW127.out _) | exact HK.out)) : P := h
theorem q30_ {P : Prop} (h : P := by repeat (first | (with_reducible first | exact HI101.out | apply IsS145.alloc | apply IsS145.drewN | apply IsS145.drew | apply IsS145.set_1 | apply IsS145.set_2) | exact HI101.out)) : P := h
theorem q31_ {P : Prop} (h : P := by repeat (first | (with_reducible first | exact HK.out | apply KeepBut.set_ | apply keep_drewN | apply keep_drew | apply keep_alloc | refine keep_far ?_ GW101.out _) | exact HK.out)) : P := h
theorem q32_ {P : Prop} (h : P := by repeat (first | (with_reducible first | exact HK.out | apply KeepBut.set_ | apply keep_drewN | apply keep_drew | apply keep_alloc | refine keep_far ?_ GW118.out _) | exact HK.out)) : P := h
theorem q33_ {P : Prop} (h : P := by repeat (first | (with_reducible first | exact HB.out | apply below_alloc | apply pw_below_drewN | apply below_drew1 | refine below_set ?_ (IsS145.ge HI0.out) | refine below_set ?_ GE127.out) | exact HB.out)) : P := h
theorem q34_ {P : Prop} (h : P := by repeat (first | (with_reducible first | exact HB.out | apply below_alloc | apply pw_below_drewN | apply below_drew1 | refine below_set ?_ (IsS145.ge HI0.out) | refine below_set ?_ GE101.out) | exact HB.out)) : P := h
theorem q35_ {P : Prop} (h : P := by repeat (first | (with_reducible first | exact HB.out | apply below_alloc | apply pw_below_drewN | apply below_drew1 | refine below_set ?_ (IsS145.ge HI0.out) | refine below_set ?_ GE118.out) | exact HB.out)) : P := h
theorem q36_ {P : Prop} (h : P := by repeat (first | (with_reducible first | exact HI0.out | apply IsS145.alloc | apply IsS145.drewN | apply IsS145.drew | apply IsS145.set_1 | apply IsS145.set_2 | refine IsS145.far ?_ NB0_127.out _) | exact HI0.out)) : P := h
theorem q37_ {P : Prop} (h : P := by repeat (first | (with_reducible first | exact HI0.out | apply IsS145.alloc | apply IsS145.drewN | apply IsS145.drew | apply IsS145.set_1 | apply IsS145.set_2 | refine IsS145.far ?_ NB0_101.out _) | exact HI0.out)) : P := h
theorem q38_ {P : Prop} (h : P := by repeat (first | (with_reducible first | exact HK.out | apply KeepBut.set_ | apply keep_drewN | apply keep_drew | apply keep_alloc | refine keep_far ?_ GW101.out _ | refine keep_far ?_ GW114.out _) | exact HK.out)) : P := h
theorem q39_ {P : Prop} (h : P := by repeat (first | (with_reducible first | exact HI0.out | apply IsS145.alloc | apply IsS145.drewN | apply IsS145.drew | apply IsS145.set_1 | apply IsS145.set_2 | refine IsS145.far ?_ NB0_118.out _) | exact HI0.out)) : P := h
theorem q40_ {P : Prop} (h : P := by repeat (first | (with_reducible first | exact HB.out | apply below_alloc | apply pw_below_drewN | apply below_drew1 | refine below_set ?_ (IsS145.ge HI0.out) | refine below_set ?_ GE101.out | refine below_set ?_ GE114.out) | exact HB.out)) : P := h
theorem q41_ {P : Prop} (h : P := by repeat (first | (with_reducible first | exact HI0.out | apply IsS145.alloc | apply IsS145.drewN | apply IsS145.drew | apply IsS145.set_1 | apply IsS145.set_2 | refine IsS145.far ?_ NB0_101.out _ | refine IsS145.far ?_ NB0_114.out _) | exact HI0.out)) : P := h
theorem q42_ {P : Prop} (h : P := by (with_reducible repeat (first | apply Kd.R_alloc | apply Kd.R_drewN | apply Kd.R_drew));exact (Kd.R_mono (Kd.R_far (p:=⟨gb127,2,none⟩) (Kd.R_far (p:=⟨gb127,1,none⟩) (Kd.R_far (p:=⟨gb127,0,none⟩) (Kd.R_mono HO_4.out (fun k_ hk=>(⟨hk,hk.2⟩ : _ ∧ k_ ≠ gb127))) (fun _ hk=>hk.2) (.int .i64 ((rd_T58 x5_1 x20_1).f0))) (fun _ hk=>hk.2) (.int .i64 ((rd_T58 x5_1 x20_1).f1))) (fun _ hk=>hk.2) (.string ((rd_T58 x5_1 x20_1).f2))) (fun _ h_=>h_.1))) : P := h
theorem q43_ {P : Prop} (h : P := by (with_reducible repeat (first | apply Kd.Q_alloc | apply Kd.Q_drewN | apply Kd.Q_drew));exact (Kd.Q_mono (Kd.Q_far (p:=⟨gb127,2,none⟩) (Kd.Q_far (p:=⟨gb127,1,none⟩) (Kd.Q_far (p:=⟨gb127,0,none⟩) (Kd.Q_mono HO_5.out (fun k_ hk=>(⟨hk,hk.2⟩ : _ ∧ k_ ≠ gb127))) (fun _ hk=>hk.2) (.int .i64 ((rd_T58 x5_1 x20_1).f0))) (fun _ hk=>hk.2) (.int .i64 ((rd_T58 x5_1 x20_1).f1))) (fun _ hk=>hk.2) (.string ((rd_T58 x5_1 x20_1).f2))) (fun _ h_=>h_.1))) : P := h
theorem q44_ {P : Prop} (h : P := by (with_reducible repeat (first | refine blk_drewN ?_ _ | refine blk_drew ?_ | refine blk_alloc ?_ _));refine blk_far ?_ NB101_114.out _;(with_reducible repeat (first | refine blk_drewN ?_ _ | refine blk_drew ?_ | refine blk_alloc ?_ _));refine blk_far ?_ NB101_114.out _;(with_reducible repeat (first | refine blk_drewN ?_ _ | refine blk_drew ?_ | refine blk_alloc ?_ _));refine blk_far ?_ NB101_114.out _;(with_reducible repeat (first | refine blk_drewN ?_ _ | refine blk_drew ?_ | refine blk_alloc ?_ _));exact BK101.out) : P := h
theorem q45_ {P : Prop} (h : P := by (with_reducible repeat (first | refine blk_drewN ?_ _ | refine blk_drew ?_ | refine blk_alloc ?_ _));refine blk_put (cs:=#[.int .i64 a1,.int .i64 (wrap64 (a1 + t105)),.string (⟨#[]⟩ : ByteArray)]) ?_ 2 _ rfl;(with_reducible repeat (first | refine blk_drewN ?_ _ | refine blk_drew ?_ | refine blk_alloc ?_ _));refine blk_put (cs:=#[.int .i64 a1,.int .i64 0,.string (⟨#[]⟩ : ByteArray)]) ?_ 1 _ rfl;(with_reducible repeat (first | refine blk_drewN ?_ _ | refine blk_drew ?_ | refine blk_alloc ?_ _));refine blk_put (cs:=#[.int .i64 0,.int .i64 0,.string (⟨#[]⟩ : ByteArray)]) ?_ 0 _ rfl;(with_reducible repeat (first | refine blk_drewN ?_ _ | refine blk_drew ?_ | refine blk_alloc ?_ _));exact BK114.out) : P := h
theorem q46_ {P : Prop} (h : P := by (with_reducible repeat (first | refine blk_drewN ?_ _ | refine blk_drew ?_ | refine blk_alloc ?_ _));refine blk_put (cs:=#[.int .i64 ((rd_T58 l0 x7_1).f0),.int .i64 ((rd_T58 l0 x7_1).f1),.string (⟨#[]⟩ : ByteArray)]) ?_ 2 _ rfl;(with_reducible repeat (first | refine blk_drewN ?_ _ | refine blk_drew ?_ | refine blk_alloc ?_ _));refine blk_put (cs:=#[.int .i64 ((rd_T58 l0 x7_1).f0),.int .i64 0,.string (⟨#[]⟩ : ByteArray)]) ?_ 1 _ rfl;(with_reducible repeat (first | refine blk_drewN ?_ _ | refine blk_drew ?_ | refine blk_alloc ?_ _));refine blk_put (cs:=#[.int .i64 0,.int .i64 0,.string (⟨#[]⟩ : ByteArray)]) ?_ 0 _ rfl;(with_reducible repeat (first | refine blk_drewN ?_ _ | refine blk_drew ?_ | refine blk_alloc ?_ _));exact BK102.out) : P := h
theorem q47_ {P : Prop} (h : P := by (with_reducible repeat (first | refine blk_drewN ?_ _ | refine blk_drew ?_ | refine blk_alloc ?_ _));refine blk_put (cs:=#[.int .i64 ((rd_T58 x5_1 x20_1).f0),.int .i64 ((rd_T58 x5_1 x20_1).f1),.string (⟨#[]⟩ : ByteArray)]) ?_ 2 _ rfl;(with_reducible repeat (first | refine blk_drewN ?_ _ | refine blk_drew ?_ | refine blk_alloc ?_ _));refine blk_put (cs:=#[.int .i64 ((rd_T58 x5_1 x20_1).f0),.int .i64 0,.string (⟨#[]⟩ : ByteArray)]) ?_ 1 _ rfl;(with_reducible repeat (first | refine blk_drewN ?_ _ | refine blk_drew ?_ | refine blk_alloc ?_ _));refine blk_put (cs:=#[.int .i64 0,.int .i64 0,.string (⟨#[]⟩ : ByteArray)]) ?_ 0 _ rfl;(with_reducible repeat (first | refine blk_drewN ?_ _ | refine blk_drew ?_ | refine blk_alloc ?_ _));exact BK127.out) : P := h
theorem q48_ {P : Prop} (h : P := by rw [hg];exact (below_size (q19_))) : P := h
theorem q49_ {P : Prop} (h : P := by rw [hg];exact (keep_size (w:=w) (g:=g) (row:=none) (q23_))) : P := h
theorem q50_ {P : Prop} (h : P := by (with_reducible repeat (first | apply Kd.R_alloc | apply Kd.R_drewN | apply Kd.R_drew));exact (Kd.R_mono (Kd.R_far (p:=⟨gb114,2,none⟩) (Kd.R_far (p:=⟨gb114,1,none⟩) (Kd.R_far (p:=⟨gb114,0,none⟩) (Kd.R_types HO104.out BK114.out (by decide)) (fun _ hk=>hk.2) (.int .i64 a1)) (fun _ hk=>hk.2) (.int .i64 (wrap64 (a1 + t105)))) (fun _ hk=>hk.2) (.string t111)) (fun _ h_=>h_.1))) : P := h
theorem q51_ {P : Prop} (h : P := by (with_reducible repeat (first | apply Kd.R_alloc | apply Kd.R_drewN | apply Kd.R_drew));exact (Kd.R_mono (Kd.R_far (p:=⟨gb114,2,none⟩) (Kd.R_far (p:=⟨gb114,1,none⟩) (Kd.R_far (p:=⟨gb114,0,none⟩) (Kd.R_types HO110.out BK114.out (by decide)) (fun _ hk=>hk.2) (.int .i64 a1)) (fun _ hk=>hk.2) (.int .i64 (wrap64 (a1 + t105)))) (fun _ hk=>hk.2) (.string t111)) (fun _ h_=>h_.1))) : P := h
theorem q52_ {P : Prop} (h : P := by simp only [Act.put,List.setIfInBounds_toArray,List.set_cons_zero,List.set_cons_succ,i64_w,i32_w];rfl) : P := h
end Go.Proofs.Ytgapcmmhbegdeaa.G
end
section
/- The steps of drawing regions that repeat word by word, each under a short name; what has come up in them. No condition. -/
set_option linter.unusedVariables false
namespace Go.Proofs.Ytgapcmmhbegdeaa.G
open Go.RowKit Go.Proofs.YtgapcmmhbegdeaaW.PrintWords Go.Proofs.YtgapcmmhbegdeaaW.PrintLast Go.Proofs.YtgapcmmhbegdeaaW.PrintMore
theorem cX_ {P Q : Prop} (h : P) (f : P → Q := by intro h_; repeat (first | exact h_ | (with_reducible refine Kd.C_alloc ?_ _) | (with_reducible refine Kd.C_drewN ?_ _) | (with_reducible refine Kd.C_drew ?_))) : Q := f h
theorem rB_ {α : Type} {d : Kd α} {e base : Nat} {ok : Nat → Prop} {v : Value} {xs : List α} {w w1 w2 : World} (H : Aside0 (d.R e w base ok v xs)) (hb : Below w1.heap.size w1 w2) (f : d.R e w base ok v xs → d.R e w1 base ok v xs := by intro h_; (with_reducible repeat (first | apply Kd.R_alloc | apply Kd.R_drewN | apply Kd.R_drew)); exact h_) : Aside0 (d.R e w2 base ok v xs) := ⟨Kd.R_below (f H.out) hb⟩
theorem rE_ {α β : Type} {d : Kd α} {d' : Kd β} {e e' base : Nat} {ok ok' : Nat → Prop} {u v : Value} {xs : List α} {ys : List β} {w w1 w2 w3 : World} (H : Aside0 (d.R e w base ok u xs)) (ho : d'.R e' w3 w1.heap.size ok' v ys) (hb : Below w1.heap.size w1 w2) (f : d.R e w base ok u xs → d.R e w1 base ok u xs := by intro h_; (with_reducible repeat (first | apply Kd.R_alloc | apply Kd.R_drewN | apply Kd.R_drew)); exact h_) : Aside0 (d.R e w2 base (fun k => ok k ∧ some k ≠ v.ownBlock) u xs) := ⟨Kd.R_elder' (f H.out) (Kd.R_base ho) hb⟩
theorem bS_ {w w1 w2 w3 : World} (H : Aside0 (Below w.heap.size w w1)) (hb : Below w2.heap.size w2 w3) (f : Below w.heap.size w w1 → Below w.heap.size w w2 := by intro h_; repeat (first | (with_reducible first | exact h_ | apply below_alloc | apply pw_below_drewN | apply below_drew1) | exact h_)) : Aside0 (Below w.heap.size w w3) := ⟨below_step (f H.out) hb⟩
theorem bkB_ {w w1 w2 : World} {g : Nat} {o : Obj} (H : Aside0 (w.heap[g]? = some o)) (hb : Below w1.heap.size w1 w2) (f : w.heap[g]? = some o → w1.heap[g]? = some o := by intro h_; (with_reducible repeat (first | refine blk_drewN ?_ _ | refine blk_drew ?_ | refine blk_alloc ?_ _)); exact h_) : Aside0 (w2.heap[g]? = some o) := ⟨blk_below (f H.out) hb⟩
theorem hB_ {w w1 : World} {p : Addr} {v : Value} (hb : Below w.heap.size w w1) (h : w.cell? p = some v) : w1.cell? p = some v := (hb.cell (World.block_lt_of_cell? w _ h)).trans h
theorem pa_ {P : Program} {ops : Array Oper} {Q : Exit → Act → World → Prop} {md : Region.Mode} {S : World → Prop} {ds : List Nat} {oi : Oper} {v : Value} {fuel : Nat} {l : Array Bool} {a : Act} {w : World} (i n : Nat) (l' : Array Bool) {a' : Act} (h : wpAnyLast P md ops Q S ds fuel l' a' w) (hi : ops[i]? = some oi := by rfl) (hN : oi.dst = some n := by rfl) (hc : anyB md ops l l' i = true := by exact any_of HT_.out (by kernel_rfl)) (hQ : ∀ c a w, Q (.panic c) (a.put oi.dst v) w → Q (.panic c) a w := by exact fun _ _ _ h => h) (hy : Yields P ops oi v a := by exact Or.inl ⟨by rfl, by intro w'; go_simp; with_reducible rfl⟩) (ha : a.put (some n) v = a' := by simp only [Act.put,List.setIfInBounds_toArray,List.set_cons_zero,List.set_cons_succ,i64_w,i32_w]; rfl) : wpAnyLast P md ops Q S ds (fuel + 1) l a w := pure_ l' hi hN hc hQ hy ha h
theorem pu_ {P : Program} {ops : Array Oper} {Q : Exit → Act → World → Prop} {md : Region.Mode} {S : World → Prop} {ds : List Nat} {oi : Oper} {fuel : Nat} {l : Array Bool} {a : Act} {w : World} (i n : Nat) (l' : Array Bool) {a' : Act} (h : wpAnyLast P md ops Q S ds fuel l' a' w) (hi : ops[i]? = some oi := by rfl) (hN : oi.dst = some n := by rfl) (hc : anyB md ops l l' i = true := by exact any_of HT_.out (by kernel_rfl)) (hQ : ∀ c a w, Q (.panic c) (a.put oi.dst undef) w → Q (.panic c) a w := by exact fun _ _ _ h => h) (hy : Yields P ops oi undef a := by exact Or.inr ⟨by rfl, rfl⟩) (ha : a.put (some n) undef = a' := by simp only [Act.put,List.setIfInBounds_toArray,List.set_cons_zero,List.set_cons_succ,i64_w,i32_w]; rfl) : wpAnyLast P md ops Q S ds (fuel + 1) l a w := pure_ l' hi hN hc hQ hy ha h
def f0_ : Array Bool := (fun t f => #[f,f,f,f,f,f,f,f,f,f,f]) true false
def f1_ : Array Bool := (fun t f => #[t,f,f,f,f,f,f,f,f,f,f]) true false
def f2_ : Array Bool := (fun t f => #[t,f,f,t,f,f,f,f,f,f,f]) true false
def f3_ : Array Bool := (fun t f => #[t,f,f,t,f,t,f,f,f,f,f]) true false
def f4_ : Array Bool := (fun t f => #[t,t,f,t,f,t,f,f,f,f,f]) true false
def f5_ : Array Bool := (fun t f => #[t,t,t,t,f,t,f,f,f,f,f]) true false
def f6_ : Array Bool := (fun t f => #[t,t,t,t,t,t,f,f,f,f,f]) true false
def f7_ : Array Bool := (fun t f => #[t,t,t,t,t,t,t,f,f,f,f]) true false
def f8_ : Array Bool := (fun t f => #[t,t,t,t,t,t,t,t,f,f,f]) true false
def f9_ : Array Bool := (fun t f => #[t,t,t,t,t,t,t,t,t,f,f]) true false
def f10_ : Array Bool := (fun t f => #[t,t,t,t,t,t,t,t,t,t,f]) true false
def f11_ : Array Bool := (fun t f => #[t,t,t,t,t,t,t,t,t,t,t]) true false
def f12_ : Array Bool := (fun t f => #[f,f,f,f,f,f,f,f,f,f,f,f,f,f,f,f,f,f]) true false
def f13_ : Array Bool := (fun t f => #[t,f,f,f,f,f,f,f,f,f,f,f,f,f,f,f,f,f]) true false
def f14_ : Array Bool := (fun t f => #[t,t,f,f,f,f,f,f,f,f,f,f,f,f,f,f,f,f]) true false
def f15_ : Array Bool := (fun t f => #[t,t,t,f,f,f,f,f,f,f,f,f,f,f,f,f,f,f]) true false
def f16_ : Array Bool := (fun t f => #[t,t,t,t,f,f,f,f,f,f,f,f,f,f,f,f,f,f]) true false
def f17_ : Array Bool := (fun t f => #[t,t,t,t,t,f,f,f,f,f,f,f,f,f,f,f,f,f]) true false
def f18_ : Array Bool := (fun t f => #[t,t,t,t,t,t,f,f,f,f,f,f,f,f,f,f,f,f]) true false
def f19_ : Array Bool := (fun t f => #[t,t,t,t,t,t,t,f,f,f,f,f,f,f,f,f,f,f]) true false
def f20_ : Array Bool := (fun t f => #[t,t,t,t,t,t,t,t,f,f,f,f,f,f,f,f,f,f]) true false
def f21_ : Array Bool := (fun t f => #[t,t,t,t,t,t,t,t,t,f,f,f,f,f,f,f,f,f]) true false
def f22_ : Array Bool := (fun t f => #[t,t,t,t,t,t,t,t,t,t,f,f,f,f,f,f,f,f]) true false
def f23_ : Array Bool := (fun t f => #[t,t,t,t,t,t,t,t,t,t,t,f,f,f,f,f,f,f]) true false
def f24_ : Array Bool := (fun t f => #[t,t,t,t,t,t,t,t,t,t,t,t,f,f,f,f,f,f]) true false
def f25_ : Array Bool := (fun t f => #[t,t,t,t,t,t,t,t,t,t,t,t,f,t,f,f,f,f]) true false
def f26_ : Array Bool := (fun t f => #[t,t,t,t,t,t,t,t,t,t,t,t,t,t,f,f,f,f]) true false
def f27_ : Array Bool := (fun t f => #[t,t,t,t,t,t,t,t,t,t,t,t,t,t,t,f,f,f]) true false
def f28_ : Array Bool := (fun t f => #[t,t,t,t,t,t,t,t,t,t,t,t,t,t,t,t,f,f]) true false
def f29_ : Array Bool := (fun t f => #[t,t,t,t,t,t,t,t,t,t,t,t,t,t,t,t,t,f]) true false
def f30_ : Array Bool := (fun t f => #[t,t,t,t,t,t,t,t,t,t,t,t,t,t,t,t,t,t]) true false
def f31_ : Array Bool := (fun t f => #[t,t,t,t,t,t,t,t,t,t,t,t,t,f,f,f,f,f]) true false
def f32_ : Array Bool := (fun t f => #[f,f,f,f,f,f,f,f,f,f,f,f,f,f]) true false
def f33_ : Array Bool := (fun t f => #[t,f,f,f,f,f,f,f,f,f,f,f,f,f]) true false
def f34_ : Array Bool := (fun t f => #[t,t,f,f,f,f,f,f,f,f,f,f,f,f]) true false
def f35_ : Array Bool := (fun t f => #[t,t,t,f,f,f,f,f,f,f,f,f,f,f]) true false
def f36_ : Array Bool := (fun t f => #[t,t,t,t,f,f,f,f,f,f,f,f,f,f]) true false
def f37_ : Array Bool := (fun t f => #[t,t,t,t,t,f,f,f,f,f,f,f,f,f]) true false
def f38_ : Array Bool := (fun t f => #[t,t,t,t,t,t,f,f,f,f,f,f,f,f]) true false
def f39_ : Array Bool := (fun t f => #[t,t,t,t,t,t,t,f,f,f,f,f,f,f]) true false
def f40_ : Array Bool := (fun t f => #[t,t,t,t,t,t,t,t,f,f,f,f,f,f]) true false
def f41_ : Array Bool := (fun t f => #[t,t,t,t,t,t,t,t,t,f,f,f,f,f]) true false
def f42_ : Array Bool := (fun t f => #[t,t,t,t,t,t,t,t,t,t,f,f,f,f]) true false
def f43_ : Array Bool := (fun t f => #[t,t,t,t,t,t,t,t,t,t,t,f,f,f]) true false
def f44_ : Array Bool := (fun t f => #[t,t,t,t,t,t,t,t,t,t,t,t,f,f]) true false
def f45_ : Array Bool := (fun t f => #[t,t,t,t,t,t,t,t,t,t,t,t,t,f]) true false
def f46_ : Array Bool := (fun t f => #[t,t,t,t,t,t,t,t,t,t,t,t,t,t]) true false
end Go.Proofs.Ytgapcmmhbegdeaa.G
end
