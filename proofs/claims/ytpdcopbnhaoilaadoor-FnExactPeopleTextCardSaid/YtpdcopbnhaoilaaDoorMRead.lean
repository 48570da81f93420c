/- What comes in as an argument, read as a value of the print's kinds: whole numbers, bools, strings, structs of two to four one-cell fields, slices of any of these. No condition beyond what a row's reading gives. -/
import Derived.Test.YtpdcopbnhaoilaaDoorWMore
import Derived.SizedLaws
import Derived.Deep.Slices
import Derived.Lib.SmallJoins
import Derived.Deep.Strs
namespace Go.Proofs.YtpdcopbnhaoilaaDoorW.PrintWords
open Go.ChangeShapes Go.WideShapes Go.RowKit Go.Joins Go.Deep

/-- What reads as data at type t reads as a value of the kind k of which G holds. -/
def Rd {α : Type} (P : Program) (t : TypeId) (k : Kd α) (G : α → Prop) : Prop :=
  ∀ (H : Type) (enc : TypeId × Value → H) (w : World) (base : Nat) (spare : Nat → Bool) (held : Bool) (fuel : Nat) (cs : List Value) (x : DataW H × List MemPlace),
    DataW.trod enc P w base spare held fuel t cs = some x → (∀ n, n ∈ x.1.weights P t → n ≤ reachBytes) → ∃ a, k.K w a cs ∧ G a

theorem rd_int {P : Program} {t : TypeId} (k : IntKind) (ht : P.underlying t = some (.int k)) : Rd P t (Kd.int k) (fun n => (Lit.int k n).wf = true) := by
  intro H enc w base spare held fuel cs x h _
  obtain ⟨n, rfl, rfl, hw⟩ := DataW.trod_int ht h
  exact ⟨n, rfl, hw⟩
theorem rd_string {P : Program} {t : TypeId} (ht : P.underlying t = some .string) : Rd P t Kd.string (fun s => s.size ≤ 140737488351232) := by
  intro H enc w base spare held fuel cs x h hz
  obtain ⟨s, rfl, rfl, _⟩ := DataW.trod_string ht h
  refine ⟨s, rfl, ?_⟩
  have := hz s.data.toList.length (by simp [DataW.weights])
  simpa [reachBytes] using this
theorem rd_imp {α : Type} {P : Program} {t : TypeId} {k : Kd α} {G G' : α → Prop} (h : Rd P t k G) (hG : ∀ a, G a → G' a) : Rd P t k G' := by
  intro H enc w base spare held fuel cs x hx hz
  obtain ⟨a, h1, h2⟩ := h H enc w base spare held fuel cs x hx hz
  exact ⟨a, h1, hG a h2⟩

/-- A list out of its elements. -/
theorem list_of {α : Type} {p : Nat → α → Prop} : ∀ n, (∀ i, i < n → ∃ a, p i a) → ∃ xs : List α, xs.length = n ∧ ∀ i a, xs[i]? = some a → p i a
  | 0, _ => ⟨[], rfl, fun i a h => by simp at h⟩
  | n + 1, h => by
    obtain ⟨xs, hl, hx⟩ := list_of n (fun i hi => h i (by omega))
    obtain ⟨a, ha⟩ := h n (by omega)
    refine ⟨xs ++ [a], by simp [hl], fun i b hb => ?_⟩
    rcases Nat.lt_trichotomy i n with hi | hi | hi
    · rw [List.getElem?_append_left (by omega)] at hb
      exact hx i b hb
    · subst hi
      rw [List.getElem?_append_right (by omega), hl] at hb
      simp at hb
      subst hb
      exact ha
    · rw [List.getElem?_append_right (by omega)] at hb
      rw [List.getElem?_eq_none (by simp; omega)] at hb
      cases hb

theorem weights_all {H : Type} {P : Program} {e : TypeId} : ∀ {ds : List (DataW H)} {d : DataW H}, d ∈ ds → ∀ n, n ∈ d.weights P e → n ∈ DataW.weightsAll P e ds
  | d0 :: ds, d, hd, n, hn => by
    simp only [DataW.weightsAll, List.mem_append]
    rcases List.mem_cons.1 hd with rfl | hd
    · exact .inl hn
    · exact .inr (weights_all hd n hn)

theorem rd_slice {α : Type} {P : Program} {t e : TypeId} {d : Kd α} {G : α → Prop} (B : Nat) (ht : P.underlying t = some (.slice e)) (hc : P.cellsOf e = d.sz) (hB : P.bytesOf e = B) (he : Rd P e d G) :
    Rd P t (Kd.slice e d) (fun l => (∀ a, a ∈ l → G a) ∧ l.length * B ≤ 140737488351232) := by
  intro H enc w base spare held fuel cs x h hz
  rcases Go.Deep.open_slice ht h with ⟨rfl, rfl⟩ | ⟨a, len, cap, m, n, D, Pl, rfl, hb, hl, hm, hmm, rfl, hx⟩
  · exact ⟨[], ⟨none, 0, rfl, Nat.le_refl _, rfl, by simp, fun hp => absurd hp (by simp)⟩, by simp, by simp⟩
  · have hlm : len ≤ m := by rw [hmm]; split <;> omega
    have hel : ∀ i, i < len → ∃ v : α, (∃ c, c.length = d.sz ∧ d.K w v c ∧ ∀ j u, c[j]? = some u → w.cell? (a.add (i * d.sz + j)) = some u) ∧ G v := by
      intro i hi
      obtain ⟨cs', h1, h2⟩ := hx i (by omega)
      obtain ⟨v, hK, hG⟩ := he H enc w base spare held n cs' (D i, Pl i) h2 (fun q hq => hz q (by
        simp only [DataW.weights, ht, List.mem_cons, List.mem_append]
        exact .inr (.inl (weights_all (List.mem_map.2 ⟨i, List.mem_range.2 hi, rfl⟩) q hq))))
      obtain ⟨_, hlen, hcell⟩ := World.cells?_some h1
      refine ⟨v, ⟨cs', by rw [hlen, hc], hK, fun j u hu => ?_⟩, hG⟩
      have hj : j < cs'.length := (List.getElem?_eq_some_iff.1 hu).1
      rw [← hu, ← hcell j (by omega), hc, Go.Deep.add_add]
    obtain ⟨xs, hxl, hxp⟩ := list_of len hel
    have hbig : len ≤ 9223372036854775807 := by simp only [maxLen] at hm; omega
    refine ⟨xs, ⟨some a, cap, by rw [hxl], by omega, rfl, by omega, fun _ => ⟨a, rfl, fun j p hj => (hxp j p hj).1⟩⟩, fun v hv => ?_, ?_⟩
    · obtain ⟨i, hi⟩ := List.mem_iff_getElem?.1 hv
      exact (hxp i v hi).2
    · have := hz ((((List.range len).map D).length + ((List.range (m - len)).map fun j => D (len + j)).length) * B) (by
        simp only [DataW.weights, ht, hB, List.mem_cons]
        exact .inl trivial)
      have h2 : len * B ≤ (((List.range len).map D).length + ((List.range (m - len)).map fun j => D (len + j)).length) * B := Nat.mul_le_mul_right _ (by simp)
      rw [hxl]
      exact Nat.le_trans h2 this

theorem rd_struct4 {α0 α1 α2 α3 β : Type} {P : Program} {t : TypeId} {f0 f1 f2 f3 : Field} {k0 : Kd α0} {k1 : Kd α1} {k2 : Kd α2} {k3 : Kd α3} {G0 : α0 → Prop} {G1 : α1 → Prop} {G2 : α2 → Prop} {G3 : α3 → Prop} (mk : α0 → α1 → α2 → α3 → β)
    (pr : β → α0 × α1 × α2 × α3) (hpr : ∀ a b c d, pr (mk a b c d) = (a, b, c, d))
    (ht : P.underlying t = some (.struct #[f0, f1, f2, f3])) (hC : P.cellsOf t = 4) (o0 : f0.offset = 0) (o1 : f1.offset = 1) (o2 : f2.offset = 2) (o3 : f3.offset = 3) (c0 : P.cellsOf f0.type = 1) (c1 : P.cellsOf f1.type = 1) (c2 : P.cellsOf f2.type = 1) (c3 : P.cellsOf f3.type = 1)
    (h0 : Rd P f0.type k0 G0) (h1 : Rd P f1.type k1 G1) (h2 : Rd P f2.type k2 G2) (h3 : Rd P f3.type k3 G3) :
    Rd P t (Kd.iso (Kd.pair k0 (Kd.pair k1 (Kd.pair k2 k3))) pr) (fun x => G0 (pr x).1 ∧ G1 (pr x).2.1 ∧ G2 (pr x).2.2.1 ∧ G3 (pr x).2.2.2) := by
  intro H enc w base spare held fuel cs x h hz
  obtain ⟨y0, y1, y2, y3, n, rfl, hl, e0, e1, e2, e3⟩ := trod_struct4 ht h
  rw [hC] at hl
  match cs, hl with
  | [a, b, c, d], _ =>
    rw [o0, c0] at e0
    rw [o1, c1] at e1
    rw [o2, c2] at e2
    rw [o3, c3] at e3
    obtain ⟨v0, K0, g0⟩ := h0 H enc w base spare held n _ y0 e0 (fun q hq => hz q (by simp [DataW.weights, ht, DataW.weightsEach, hq]))
    obtain ⟨v1, K1, g1⟩ := h1 H enc w base spare held n _ y1 e1 (fun q hq => hz q (by simp [DataW.weights, ht, DataW.weightsEach, hq]))
    obtain ⟨v2, K2, g2⟩ := h2 H enc w base spare held n _ y2 e2 (fun q hq => hz q (by simp [DataW.weights, ht, DataW.weightsEach, hq]))
    obtain ⟨v3, K3, g3⟩ := h3 H enc w base spare held n _ y3 e3 (fun q hq => hz q (by simp [DataW.weights, ht, DataW.weightsEach, hq]))
    refine ⟨mk v0 v1 v2 v3, ?_, ?_⟩
    · show (Kd.pair k0 (Kd.pair k1 (Kd.pair k2 k3))).K w (pr (mk v0 v1 v2 v3)) [a, b, c, d]
      rw [hpr]
      exact ⟨[a], [b, c, d], rfl, K0, [b], [c, d], rfl, K1, [c], [d], rfl, K2, K3⟩
    · simp only [hpr]
      exact ⟨g0, g1, g2, g3⟩

/-- An argument's weights are among the row's. -/
theorem arg_sized {H : Type} {P : Program} {ts : List TypeId} {ds : List (DataW H)} (hsz : (DataW.weightsEach P ts ds).all (· ≤ reachBytes) = true) {j : Nat} {t : TypeId} {d : DataW H} (ht : ts[j]? = some t) (hd : ds[j]? = some d) : ∀ n, n ∈ d.weights P t → n ≤ reachBytes :=
  fun n hn => by simpa using List.all_eq_true.1 hsz n (DataW.weights_mem_each ht hd n hn)

/-- A slice that came in. -/
theorem open_row {α : Type} {P : Program} {t e : TypeId} {d : Kd α} {G : List α → Prop} (hR : Rd P t (Kd.slice e d) G) {H : Type} {enc : TypeId × Value → H} {w : World} {base : Nat} {spare : Nat → Bool} {held : Bool} {A : Option Addr} {len cap : Nat} {x : DataW H} {ps : List MemPlace}
    (h : DataW.Trod enc P w base spare held t (.slice A len cap) x ps) (hz : ∀ n, n ∈ x.weights P t → n ≤ reachBytes) :
    ∃ l : List α, len = l.length ∧ l.length ≤ cap ∧ d.C w A l.length l ∧ G l := by
  obtain ⟨fuel, hf⟩ := h
  obtain ⟨l, ⟨A', c, he, hl, hC⟩, hG⟩ := hR H enc w base spare held fuel _ _ hf hz
  simp only [Value.cells, List.cons.injEq, Value.slice.injEq, and_true] at he
  obtain ⟨rfl, rfl, rfl⟩ := he
  exact ⟨l, rfl, hl, hC, hG⟩
/-! ### texts held against each other -/
theorem less_total : ∀ a b : List UInt8, (Op.bytesLess a b || a == b) = !(Op.bytesLess b a)
  | [], [] => rfl
  | [], _ :: _ => rfl
  | _ :: _, [] => rfl
  | a :: x, b :: y => by
    have ih := less_total x y
    simp only [Op.bytesLess, List.cons_beq_cons]
    rcases Nat.lt_trichotomy a.toNat b.toNat with h | h | h
    · have h1 : (decide (a < b)) = true := decide_eq_true (UInt8.lt_iff_toNat_lt.2 h)
      have h2 : (decide (b < a)) = false := decide_eq_false (fun q => by have := UInt8.lt_iff_toNat_lt.1 q; omega)
      have h3 : (b == a) = false := beq_eq_false_iff_ne.2 (fun q => by subst q; omega)
      simp [h1, h2, h3]
    · obtain rfl : a = b := UInt8.toNat_inj.1 h
      simp [ih]
    · have h1 : (decide (a < b)) = false := decide_eq_false (fun q => by have := UInt8.lt_iff_toNat_lt.1 q; omega)
      have h2 : (decide (b < a)) = true := decide_eq_true (UInt8.lt_iff_toNat_lt.2 h)
      have h3 : (a == b) = false := beq_eq_false_iff_ne.2 (fun q => by subst q; omega)
      simp [h1, h2, h3]
theorem str_geq (t : TypeId) (a b : ByteArray) : binOp .geq t (.string a) (.string b) = pure (.bool !(Op.bytesLess a.toList b.toList)) := by simp [binOp, Op.stringOp]
theorem str_gtr (t : TypeId) (a b : ByteArray) : binOp .gtr t (.string a) (.string b) = pure (.bool (Op.bytesLess b.toList a.toList)) := by
  have : binOp .gtr t (.string a) (.string b) = pure (.bool !(Op.bytesLess a.toList b.toList || a.toList == b.toList)) := by simp [binOp, Op.stringOp]
  rw [this, less_total, Bool.not_not]
theorem str_leq (t : TypeId) (a b : ByteArray) : binOp .leq t (.string a) (.string b) = pure (.bool !(Op.bytesLess b.toList a.toList)) := by
  have : binOp .leq t (.string a) (.string b) = pure (.bool (Op.bytesLess a.toList b.toList || a.toList == b.toList)) := by simp [binOp, Op.stringOp]
  rw [this, less_total]

/-! ### what calls through function values come to -/
end Go.Proofs.YtpdcopbnhaoilaaDoorW.PrintWords
