/- The library's iterator behind strings.SplitAfterSeq at the separator ";": it hands over the pieces of the text, one a round; and what a loop over it comes to. No condition but what the text says of the world. -/
import Derived.RangeFuncNested
import Derived.RangeFuncBound
import Derived.RangeFuncCalls
import Derived.RangeFuncLeaves
import Derived.RangeFuncBox
import Derived.Shelf.Abstract
import Derived.Shelf.RegionOpen
import Derived.WalkKit
import Derived.OwnWalkIn
import Derived.TacticsInMore
import Derived.LoopNIn
import Derived.LoopIn
import Derived.Test.YtglcpghappepaaaGreatDoorMTabA
namespace Go.Proofs.YtglcpghappepaaaGreatDoor.MSeq
open Go.RowKit Go.Shelf

attribute [local go_sem] Oper.semAt_some

/-! ### the pieces -/
def cuts (c : UInt8) : List UInt8 → List UInt8 → List (List UInt8)
  | acc, [] => [acc]
  | acc, x :: xs => if x = c then (acc ++ [x]) :: cuts c [] xs else cuts c (acc ++ [x]) xs
def bytes (l : List UInt8) : ByteArray := ⟨l.toArray⟩
def parts (s : ByteArray) : List ByteArray := (cuts 59 [] s.data.toList).map bytes

/-- The iterator's three captured variables; v: what is left of the text. -/
structure Cap (b : Nat) (W : World) (v : ByteArray) : Prop where
  s : W.cell? ⟨b, 0, none⟩ = some (.string v)
  fr : W.frozen? ⟨b, 0, none⟩ = false
  sep : W.cell? ⟨b + 1, 0, none⟩ = some (.string ⟨#[59]⟩)
  save : W.cell? ⟨b + 2, 0, none⟩ = some (.int .i64 1)
theorem Cap.set {b : Nat} {W : World} {v : ByteArray} (h : Cap b W v) (u : ByteArray) : Cap b (W.setCell ⟨b, 0, none⟩ (.string u)) u :=
  ⟨World.cell?_setCell_same' _ _ _ (by rw [h.s]; rfl), by rw [World.frozen?_setCell]; exact h.fr, (World.cell?_setCell_other _ _ _ _ (by simp)).trans h.sep, (World.cell?_setCell_other _ _ _ _ (by simp)).trans h.save⟩

/-- How much of the text is left: the loop's measure. -/
def left (b : Nat) (W : World) : Nat := match W.cell? ⟨b, 0, none⟩ with
  | some (.string v) => v.size
  | _ => 0
theorem Cap.left {b : Nat} {W : World} {v : ByteArray} (h : Cap b W v) : left b W = v.size := by
  unfold MSeq.left
  rw [h.s]
theorem cuts_at (c : UInt8) : ∀ (l acc : List UInt8), (Lib.indexByte l c = -1 ∧ cuts c acc l = [acc ++ l]) ∨ ∃ j : Nat, Lib.indexByte l c = (j : Int) ∧ j < l.length ∧ cuts c acc l = (acc ++ l.take (j + 1)) :: cuts c [] (l.drop (j + 1))
  | [], acc => Or.inl ⟨rfl, by simp [cuts]⟩
  | x :: l, acc => by
    by_cases h : x = c
    · refine Or.inr ⟨0, ?_, by simp, ?_⟩
      · rw [Lib.indexByte, if_pos (by simpa using h)]; rfl
      · rw [cuts, if_pos h]; simp
    · have hb : (x == c) = false := by simpa using h
      rcases cuts_at c l (acc ++ [x]) with ⟨h1, h2⟩ | ⟨j, h1, h2, h3⟩
      · refine Or.inl ⟨?_, ?_⟩
        · rw [Lib.indexByte, hb, h1]; rfl
        · rw [cuts, if_neg h, h2]; simp
      · refine Or.inr ⟨j + 1, ?_, by simp; omega, ?_⟩
        · rw [Lib.indexByte, hb, h1, if_neg (by simp), if_neg (by first | omega | (simp; done) | (simp; omega))]
          try rfl
        · rw [cuts, if_neg h, h3]; simp
theorem bytes_at (v : ByteArray) : bytes v.data.toList = v := by
  unfold bytes
  simp
theorem extract_at (v : ByteArray) (i j : Nat) : (v.extract i j).data.toList = (v.data.toList.take j).drop i := by
  rw [ByteArray.data_extract, Array.toList_extract, List.extract_eq_take_drop, List.drop_take]
theorem split_at (v : ByteArray) : (Lib.indexByte v.data.toList 59 = -1 ∧ parts v = [v]) ∨ ∃ j : Nat, Lib.indexByte v.data.toList 59 = (j : Int) ∧ j < v.size ∧ parts v = v.extract 0 (j + 1) :: parts (v.extract (j + 1) v.size) := by
  rcases cuts_at 59 v.data.toList [] with ⟨h1, h2⟩ | ⟨j, h1, h2, h3⟩
  · refine Or.inl ⟨h1, ?_⟩
    unfold parts
    rw [h2]
    simp [bytes_at]
  · refine Or.inr ⟨j, h1, by simpa using h2, ?_⟩
    unfold parts
    rw [h3, List.map_cons]
    congr 1
    · rw [← bytes_at (v.extract 0 (j + 1)), extract_at]; simp
    · rw [extract_at]
      congr 2
      rw [List.take_of_length_le (by simp)]

set_option maxRecDepth 100000 in
set_option maxHeartbeats 4000000 in
theorem seq_in (n l b : Nat) (xs : List ByteArray) (J : List ByteArray → World → Prop) (hJ : ∀ pre W v, J pre W → J pre (W.setCell ⟨b, 0, none⟩ v))
    (hY : ∀ pre x v W, J pre W → Cap b W v → (pre ++ [x]) <+: xs → YieldAt Fence.wide (n - 1) Tryz.prog l #[.string x] W fun e W' => e = .returned (.bool true) ∧ J (pre ++ [x]) W' ∧ Cap b W' v)
    (W : World) (s : ByteArray) (hlen : s.size ≤ 9223372036854775807) (hx : xs = parts s) (hC : Cap b W s) (h0 : J [] W) :
    CallsIn Fence.wide n Tryz.prog 80 #[.func (.yield l) #[] #[], .pointer (some ⟨b + 1, 0, none⟩), .pointer (some ⟨b, 0, none⟩), .pointer (some ⟨b + 2, 0, none⟩)] W fun e W' => (∃ v, e = .returned v) ∧ J xs W' := by
  refine callsIn_of_wp Tryz.func80 rfl trivial ?_ rfl
  simp only [Tryz.ntmps80, List.size_toArray, List.length_cons, List.length_nil, Nat.reduceAdd, Nat.reduceSub, Array.replicate_succ, Array.replicate_zero, List.push_toArray, List.append_toArray, List.nil_append, List.cons_append]
  have c1 := hC.s
  have c2 := hC.sep
  have c3 := hC.save
  gi_wp2
  gi_loopw [7] (fun _ wr => ∃ (pre : List ByteArray) (v : ByteArray), xs = pre ++ parts v ∧ v.size ≤ s.size ∧ Cap b wr v ∧ J pre wr) (fun _ wr => left b wr)
  case atStart => exact ⟨[], s, by simpa using hx, Nat.le_refl _, hC, h0⟩
  case round =>
    clear c1 c2 c3 hC h0
    obtain ⟨pre, v, hp, hvs, hC, hJp⟩ := hrel
    have c1 := hC.s
    have c2 := hC.sep
    have c3 := hC.save
    rcases split_at v with ⟨hi, hs⟩ | ⟨j, hi, hj, hs⟩
    · obtain ⟨fn, tmps, assign, body, hy, hR⟩ := hY pre v v wr hJp hC ⟨[], by rw [hp, hs]; simp⟩
      gi_wp2
      refine ⟨trivial, (fun h => nomatch h), ?_⟩
      refine (callsIn_wide.2 (MTabA.find_one v 59 _)).mono ?_
      rintro e W' ⟨rfl, rfl⟩
      rw [hi]
      gi_wp2
      refine ⟨(fun h => nomatch h), ?_⟩
      refine hR.mono ?_
      rintro e W3 ⟨rfl, hJ3, hC3⟩
      gi_wp2
      go_end0
      exact ⟨⟨_, rfl⟩, by rw [hp, hs]; exact hJ3⟩
    · obtain ⟨fn, tmps, assign, body, hy, hR⟩ := hY pre (v.extract 0 (j + 1)) v wr hJp hC ⟨parts (v.extract (j + 1) v.size), by rw [hp, hs]; simp⟩
      have hz : v.size ≤ 9223372036854775807 := Nat.le_trans hvs hlen
      have w1 : wrap64 ((j : Int) + 1) = (j : Int) + 1 := by unfold wrap64; omega
      have w2 : decide ((j : Int) < 0) = false := decide_eq_false (by omega)
      have w3 : ((j : Int) + 1).toNat = j + 1 := by omega
      have w4 : (0 ≤ (j : Int) + 1) = True := eq_true (by omega)
      have w5 : ((j : Int) + 1 ≤ (v.size : Int)) = True := eq_true (by omega)
      clear hz
      gi_wp2
      refine ⟨trivial, (fun h => nomatch h), ?_⟩
      refine (callsIn_wide.2 (MTabA.find_one v 59 _)).mono ?_
      rintro e W' ⟨rfl, rfl⟩
      rw [hi]
      gi_wp2
      refine ⟨(fun h => nomatch h), ?_⟩
      refine hR.mono ?_
      rintro e W3 ⟨rfl, hJ3, hC3⟩
      have d1 := hC3.s
      have d2 := hC3.sep
      have d4 := hC3.fr
      gi_wp2
      go_roundw
      case rel => exact ⟨pre ++ [v.extract 0 (j + 1)], v.extract (j + 1) v.size, by rw [hp, hs]; simp, by rw [ByteArray.size_extract]; omega, hC3.set _, hJ _ _ _ hJ3⟩
      case measure => rw [(hC3.set _).left, hC.left, ByteArray.size_extract]; omega

theorem seq_made (n : Nat) (s c : ByteArray) (k : Int) (w : World) : CallsIn Fence.wide n Tryz.prog 69 #[.string s, .string c, .int .i64 k] w fun e w' =>
    e = .returned (.func (.func 80) #[] #[.pointer (some ⟨w.heap.size + 1, 0, none⟩), .pointer (some ⟨w.heap.size, 0, none⟩), .pointer (some ⟨w.heap.size + 2, 0, none⟩)]) ∧
    w' = ((w.alloc (.cells #[.string s] 9)).alloc (.cells #[.string c] 9)).alloc (.cells #[.int .i64 k] 3) := by
  refine callsIn_of_wp Tryz.func69 rfl trivial ?_ rfl
  simp only [Tryz.ntmps69, List.size_toArray, List.length_cons, List.length_nil, Nat.reduceAdd, Nat.reduceSub, Array.replicate_succ, Array.replicate_zero, List.push_toArray, List.append_toArray, List.nil_append, List.cons_append]
  gi_wp2
  go_ret
  exact ⟨rfl, rfl⟩
theorem after_seq (n : Nat) (s : ByteArray) (w : World) : CallsIn Fence.wide n Tryz.prog 47 #[.string s, .string ⟨#[59]⟩] w fun e w' =>
    e = .returned (.func (.func 80) #[] #[.pointer (some ⟨w.heap.size + 1, 0, none⟩), .pointer (some ⟨w.heap.size, 0, none⟩), .pointer (some ⟨w.heap.size + 2, 0, none⟩)]) ∧
    w' = ((w.alloc (.cells #[.string s] 9)).alloc (.cells #[.string ⟨#[59]⟩] 9)).alloc (.cells #[.int .i64 1] 3) := by
  refine callsIn_of_wp Tryz.func47 rfl trivial ?_ rfl
  simp only [Tryz.ntmps47, List.size_toArray, List.length_cons, List.length_nil, Nat.reduceAdd, Nat.reduceSub, Array.replicate_succ, Array.replicate_zero, List.push_toArray, List.append_toArray, List.nil_append, List.cons_append]
  gi_wp2
  refine ⟨trivial, (fun h => nomatch h), ?_⟩
  refine (seq_made _ s ⟨#[59]⟩ 1 w).mono ?_
  rintro e w' ⟨rfl, rfl⟩
  gi_wp2
  go_ret
  exact ⟨rfl, rfl⟩
theorem cap_new (s : ByteArray) (w : World) : Cap w.heap.size (((w.alloc (.cells #[.string s] 9)).alloc (.cells #[.string ⟨#[59]⟩] 9)).alloc (.cells #[.int .i64 1] 3)) s := by
  have b1 := ((Boxed.new w 9 (.string s)).alloc (.cells #[.string ⟨#[59]⟩] 9)).alloc (.cells #[.int .i64 1] 3)
  have b2 := (Boxed.new (w.alloc (.cells #[.string s] 9)) 9 (.string ⟨#[59]⟩)).alloc (.cells #[.int .i64 1] 3)
  have b3 := Boxed.new ((w.alloc (.cells #[.string s] 9)).alloc (.cells #[.string ⟨#[59]⟩] 9)) 3 (.int .i64 1)
  rw [World.size_alloc] at b2
  rw [World.size_alloc, World.size_alloc] at b3
  exact ⟨b1.cell, b1.frozen, b2.cell, b3.cell⟩

/-- How a round's body ends: it goes on; what is no cells lies; the iterator's variables lie. -/
def onPost (I : List ByteArray → World → Prop) (b : Nat) (v : ByteArray) (xs : List ByteArray) (W : World) : Exit → Act → World → Prop
  | .normal, _, W' => KeepsOthers W W' ∧ I xs W' ∧ Cap b W' v
  | _, _, _ => False

set_option maxHeartbeats 2000000 in
/-- A loop over the pieces whose body never leaves. -/
theorem range_seq {n : Nat} {g : Operand} {p : Tmp} {assign body : Code} {Q : Exit → Act → World → Prop} {a : Act} {w : World} (b : Nat) (s : ByteArray) (hlen : s.size ≤ 9223372036854775807)
    (hg : a.eval g = .func (.func 80) #[] #[.pointer (some ⟨b + 1, 0, none⟩), .pointer (some ⟨b, 0, none⟩), .pointer (some ⟨b + 2, 0, none⟩)]) (hC : Cap b w s)
    (I : List ByteArray → World → Prop) (hI : OwnFrom w.heap.size I) (hIs : ∀ pre W v, I pre W → I pre (W.setCell ⟨b, 0, none⟩ v)) (h0 : I [] w) (a1 : ByteArray → Act)
    (hassign : ∀ (l : Nat) (x : ByteArray) (W : World) (K : Act → World → Prop), K (a1 x) W →
      assign.wpIn (Fence.wide.inRound l) (n - 1 - 1) Tryz.prog (Exit.then K (fun _ _ _ => False)) { tmps := ((#[p] : Array Tmp).zip #[Value.string x]).foldl (fun t (p, v) => t.setIfInBounds p v) a.tmps, defers := [] } W)
    (hbody : ∀ (l : Nat) (pre : List ByteArray) (x v : ByteArray) (W : World), I pre W → Cap b W v → (pre ++ [x]) <+: parts s → w.heap.size + 1 < W.heap.size → body.wpIn (Fence.wide.inRound l) (n - 1 - 1) Tryz.prog (onPost I b v (pre ++ [x]) W) (a1 x) W)
    (hdone : ∀ (D : Nat) (W : World), w.heap.size ≤ D → I (parts s) W → W.heap[D]? = some (.deferred (some [])) → Q .normal { a with defers := { target := .collected D, args := #[] } :: a.defers } W) :
    (Code.rangeFunc g #[p] assign body).wpIn Fence.wide n Tryz.prog Q a w := by
  refine wpIn_rangeFunc ?_
  intro fn hfn
  obtain ⟨L, hL⟩ : ∃ L : LoopState → Loop, L = fun st => { state := st, pending := none, fn, tmps := a.tmps, params := #[p], assign, body, defers := w.heap.size } := ⟨_, rfl⟩
  obtain ⟨W1, hW1⟩ : ∃ W1, (w.alloc (.deferred (some []))).alloc (.loop (L .ready)) = W1 := ⟨_, rfl⟩
  have hl1 : W1.heap[w.heap.size + 1]? = some (.loop (L .ready)) := by
    have := World.alloc_heap_new (w.alloc (.deferred (some []))) (.loop (L .ready))
    rw [World.size_alloc] at this
    rw [← hW1]
    exact this
  have hd1 : W1.heap[w.heap.size]? = some (.deferred (some [])) := by
    rw [← hW1]
    exact (Below.heap_alloc _ _ _ (by simp)).trans (World.alloc_heap_new w _)
  have hi1 : I [] W1 := by rw [← hW1]; exact hI.alloc _ (hI.alloc _ h0)
  have hc1 : Cap b W1 s := by
    have hA : ∀ (A : World) (o : Obj), Cap b A s → Cap b (A.alloc o) s := fun A o h => by
      have hg := World.grownBy_alloc A o none
      have hr : ∀ r, (none : Option Nat) = some r → ∃ o : Obj, A.heap[r]? = some o ∧ o.isCells = false := fun r e => nomatch e
      exact ⟨cell_kept h.s hg hr, (frozen_kept h.s hg hr).trans h.fr, cell_kept h.sep hg hr, cell_kept h.save hg hr⟩
    rw [← hW1]
    exact hA _ _ (hA _ _ hC)
  refine ⟨w.heap.size + 1, [{ target := .collected w.heap.size, args := #[] }], W1, { target := .fn (.func 80) #[.pointer (some ⟨b + 1, 0, none⟩), .pointer (some ⟨b, 0, none⟩), .pointer (some ⟨b + 2, 0, none⟩)], args := #[.func (.yield (w.heap.size + 1)) #[] #[]] }, W1, 80,
    #[.func (.yield (w.heap.size + 1)) #[] #[], .pointer (some ⟨b + 1, 0, none⟩), .pointer (some ⟨b, 0, none⟩), .pointer (some ⟨b + 2, 0, none⟩)], W1, ?_, ?_, ?_, ?_, (fun h => nomatch h), ?_⟩
  · rw [← hW1, hL]
    exact run_enterLoop_outer _ _ _ _ _
  · simp only [resolve, hg]
    simp [go_sem]
  · intro f' _
    trivial
  · simp [invoke, go_sem]
  · refine (seq_in (n - 1) (w.heap.size + 1) b (parts s) (fun pre W => I pre W ∧ W.heap[w.heap.size + 1]? = some (.loop (L .ready)) ∧ W.heap[w.heap.size]? = some (.deferred (some [])))
      (fun pre W v h => ⟨hIs pre W v h.1, (KeepsOthers.setCell _ _ _).same _ _ h.2.1 rfl, (KeepsOthers.setCell _ _ _).same _ _ h.2.2 rfl⟩) ?_ W1 s hlen rfl hc1 ⟨hi1, hl1, hd1⟩).mono ?_
    · rintro pre x v W ⟨hi, hl, hd⟩ hc hpre
      have hlt : w.heap.size + 1 < W.heap.size := (Array.getElem?_eq_some_iff.1 hl).1
      have hy := run_yield (P := Tryz.prog) (args := #[.string x]) hl (by rw [hL]; rfl)
      rw [hL] at hy
      obtain ⟨Wb, hWb⟩ : ∃ Wb, W.putObj (w.heap.size + 1) (.loop (L .busy)) = Wb := ⟨_, rfl⟩
      have hl2 : Wb.heap[w.heap.size + 1]? = some (.loop (L .busy)) := by rw [← hWb]; exact World.putObj_heap_same hlt
      have hd2 : Wb.heap[w.heap.size]? = some (.deferred (some [])) := by rw [← hWb]; exact (World.putObj_heap_other (by omega)).trans hd
      have hi2 : I pre Wb := by rw [← hWb]; exact hI.putObj _ hi (by omega) hl rfl
      have hput : ∀ (A : World) (o : Obj) (o' : Obj) (u : ByteArray), A.heap[w.heap.size + 1]? = some o → o.isCells = false → Cap b A u → Cap b (A.putObj (w.heap.size + 1) o') u := fun A o o' u hA ho h => by
        have hg := grownBy_putObj' A (w.heap.size + 1) o'
        have hr : ∀ r, some (w.heap.size + 1) = some r → ∃ o : Obj, A.heap[r]? = some o ∧ o.isCells = false := fun r e => by cases e; exact ⟨o, hA, ho⟩
        exact ⟨cell_kept h.s hg hr, (frozen_kept h.s hg hr).trans h.fr, cell_kept h.sep hg hr, cell_kept h.save hg hr⟩
      have hc2 : Cap b Wb v := by rw [← hWb]; exact hput _ _ _ _ hl rfl hc
      have hlt2 : w.heap.size + 1 < Wb.heap.size := (Array.getElem?_eq_some_iff.1 hl2).1
      refine ⟨fn, _, assign, body, hy, roundIn_of_wpIn hfn ?_⟩
      refine hassign _ x W _ ?_
      refine ⟨Wb, ?_, ?_⟩
      · rw [← hWb]
        have := run_beginRound (P := Tryz.prog) hl (by rw [hL])
        rw [this, hL]
      · refine wpIn_mono (hbody _ pre x v Wb hi2 hc2 hpre hlt2) ?_
        rintro e a3 W3 hp
        cases e with
        | normal =>
          obtain ⟨hk3, hi3, hc3⟩ := hp
          have hl3 := hk3.same _ _ hl2 rfl
          have hr := run_endRound (P := Tryz.prog) none hl3
          have hL2 : ({ L .busy with state := if (none : Option Code).isNone then .ready else .done, pending := none } : Loop) = L .ready := by rw [hL]; rfl
          rw [hL2] at hr
          refine ⟨_, _, hr, rfl, ⟨hI.putObj _ hi3 (by omega) hl3 rfl, World.putObj_heap_same (Array.getElem?_eq_some_iff.1 hl3).1, (World.putObj_heap_other (by omega)).trans (hk3.same _ _ hd2 rfl)⟩, hput _ _ _ _ hl3 rfl hc3⟩
        | ret => exact hp.elim
        | exit id => exact hp.elim
        | goto t => exact hp.elim
        | panic ch => exact hp.elim
        | outgrown => exact hp.elim
    · rintro e W2 ⟨⟨v, rfl⟩, hi, hl, hd⟩
      have hr := run_endLoop (P := Tryz.prog) hl (by rw [hL]; simp)
      refine ⟨none, _, by rw [hL] at hr; exact hr, hdone _ _ (Nat.le_refl _) (hI.putObj _ hi (by omega) hl rfl) ((World.putObj_heap_other (by omega)).trans hd)⟩
end Go.Proofs.YtglcpghappepaaaGreatDoor.MSeq
