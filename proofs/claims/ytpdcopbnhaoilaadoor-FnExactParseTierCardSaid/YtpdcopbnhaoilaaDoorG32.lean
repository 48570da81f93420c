-- Written by this session's own program over the kit's print (wip/tools/myprint.py); Lean checks it.
import Derived.Test.YtpdcopbnhaoilaaDoorG0
import Derived.Test.YtpdcopbnhaoilaaDoorG10
import Derived.Test.YtpdcopbnhaoilaaDoorG14
import Derived.Test.YtpdcopbnhaoilaaDoorG15
import Derived.Test.YtpdcopbnhaoilaaDoorG27
import Derived.Test.YtpdcopbnhaoilaaDoorG28
import Derived.Test.YtpdcopbnhaoilaaDoorG30
import Derived.Test.YtpdcopbnhaoilaaDoorG31
import Derived.Test.YtpdcopbnhaoilaaDoorMTabA
import Derived.Test.YtpdcopbnhaoilaaDoorMSeq
namespace Go.Proofs.YtpdcopbnhaoilaaDoor.G
open Go.RowKit Go.Proofs.YtpdcopbnhaoilaaDoorW.PrintWords Go.Proofs.YtpdcopbnhaoilaaDoorW.PrintLast Go.Proofs.YtpdcopbnhaoilaaDoorW.PrintMore
attribute [local go_sem] max2_int min2_int max_two min_two max_three min_three max_four min_four str_geq str_gtr str_leq   -- for this text's walks alone
set_option linter.unusedVariables false
set_option linter.unusedSimpArgs false

/-! ### impl_ParseTier: function 25 -/
/-- impl.ParseTier: the note of one piece of the text. -/
def impl_ParseTier.note (x : ByteArray) : Option S84 := (strings_TrimSuffix.f x ⟨#[59]⟩).bind fun t => (strings_Cut.f t ⟨#[32]⟩).bind fun c => (strings_Cut.f c.1 ⟨#[45]⟩).bind fun d => (impl_decimal.f d.1).bind fun p => (impl_decimal.f d.2.1).bind fun q => some ⟨p.1, q.1, c.2.1⟩
def impl_ParseTier.step (out : List S84) (x : ByteArray) : Option (List S84) := if x.toList = [] ∨ 40 < out.length then some out else (impl_ParseTier.note x).bind fun n => some (out ++ [n])
def impl_ParseTier.outs : List S84 → List ByteArray → Option (List S84)
  | out, [] => some out
  | out, x :: xs => (impl_ParseTier.step out x).bind fun o => impl_ParseTier.outs o xs
def impl_ParseTier.f (k : Nat) (a0 : ByteArray) : Option (List S84 × Bool) := if a0.size ≤ 1000000000 then (impl_ParseTier.outs [] (MSeq.parts a0)).bind fun out => (impl_IsTier.f k out).bind fun ok => (if ok = true then ((impl_tierText.f k out).bind fun t => if t.toList = a0.toList then some (out, true) else some ([], false)) else some ([], false)) else none
theorem impl_ParseTier.outs_app : ∀ (a b : List ByteArray) (o : List S84), impl_ParseTier.outs o (a ++ b) = (impl_ParseTier.outs o a).bind fun q => impl_ParseTier.outs q b
  | [], _, _ => rfl
  | x :: a, b, o => by
    rw [List.cons_append, impl_ParseTier.outs, impl_ParseTier.outs]
    cases impl_ParseTier.step o x with
    | none => rfl
    | some q => exact impl_ParseTier.outs_app a b q
def impl_ParseTier.outOf (pre : List ByteArray) : List S84 := (impl_ParseTier.outs [] pre).getD []
theorem impl_ParseTier.row_far {W : World} {base : Nat} {e : TypeId} {size k : Nat} {v : Value} {xs : List Value} (h : W.ownsRow base e size v k xs) {b : Nat} (hb : b < base) : v.ownBlock = none ∨ v.ownBlock ≠ some b := by
  rcases h.2 with ⟨rfl, _⟩ | ⟨g, cap, cur, rfl, hg, _⟩
  · exact .inl rfl
  · refine .inr fun e => ?_
    have : g = b := by simpa [Value.ownBlock] using e
    omega
theorem impl_ParseTier.row_old {W : World} {base : Nat} {e : TypeId} {size k : Nat} {v : Value} {xs : List Value} (h : W.ownsRow base e size v k xs) {b : Nat} (hb : W.heap.size ≤ b) : some b ≠ v.ownBlock := by
  rcases h.2 with ⟨rfl, _⟩ | ⟨g, cap, cur, rfl, _, hg, _⟩
  · exact fun e => nomatch e
  · intro e
    have h1 := blk_lt hg
    have : b = g := by simpa [Value.ownBlock] using e
    omega
def impl_ParseTier.enc (n : S84) : List Value := [.int .i64 n.f0, .int .i64 n.f1, .string n.f2]
theorem impl_ParseTier.reps (w : World) (base : Nat) (okp : Nat → Prop) : ∀ out : List S84, Reps (k84.M w base okp) 3 out (out.flatMap impl_ParseTier.enc)
  | [] => Reps.none _ _
  | n :: out => Reps.c3 (k84_mkM w base okp n) (impl_ParseTier.reps w base okp out)
section
open Go.Shelf MSeq
attribute [local go_sem] Oper.semAt_some
set_option maxHeartbeats 4000000 in
set_option maxRecDepth 100000 in
theorem impl_ParseTier.calls (k : Nat) (a0 : ByteArray) (r1 : List S84) (r2 : Bool) (w : World) (hT : MTabA.Tab w) (h : impl_ParseTier.f k a0 = some (r1, r2)) :
    Calls Tryd.prog 25 #[.string a0] w fun e w' => ∃ v0_ : Value, e = .returned (.tuple #[v0_, .bool r2]) ∧ Kd.R k84 84 w' w.heap.size (fun _ => True) v0_ r1 ∧ Below w.heap.size w w' := by
  by_cases hs : a0.size ≤ 1000000000
  case neg => simp [impl_ParseTier.f, hs] at h
  rw [impl_ParseTier.f, if_pos hs] at h
  obtain ⟨out, ho, h⟩ := Option.bind_eq_some_iff.mp h
  obtain ⟨ok, hok, h⟩ := Option.bind_eq_some_iff.mp h
  refine callsIn_wide (n := 3) |>.1 ?_
  refine callsIn_of_wp_marks Tryd.func25 rfl trivial ?_ rfl
  simp only [Tryd.ntmps25, List.size_toArray, List.length_cons, List.length_nil, Nat.reduceAdd, Nat.reduceSub, Array.replicate_succ, Array.replicate_zero, List.push_toArray, List.append_toArray, List.nil_append, List.cons_append]
  gi_wp2
  refine ⟨trivial, ?_⟩
  refine (MSeq.after_seq _ a0 _).mono ?_
  rintro e w' ⟨rfl, rfl⟩
  gi_wp2
  have hc0 := MSeq.cap_new a0 (w.alloc (.cells #[.slice none 0 0] 47))
  have b0 := (((Boxed.new w 47 (.slice none 0 0)).alloc (.cells #[.string a0] 9)).alloc (.cells #[.string ⟨#[59]⟩] 9)).alloc (.cells #[.int .i64 1] 3)
  have hB0 : Below w.heap.size w ((((w.alloc (.cells #[.slice none 0 0] 47)).alloc (.cells #[.string a0] 9)).alloc (.cells #[.string ⟨#[59]⟩] 9)).alloc (.cells #[.int .i64 1] 3)) := ((((Below.refl _ w).alloc (Nat.le_refl _) _).alloc (by simp) _).alloc (by simp; omega) _).alloc (by simp; omega) _
  rw [World.size_alloc] at hc0
  have hz : ((((w.alloc (.cells #[.slice none 0 0] 47)).alloc (.cells #[.string a0] 9)).alloc (.cells #[.string ⟨#[59]⟩] 9)).alloc (.cells #[.int .i64 1] 3)).heap.size = w.heap.size + 4 := by simp
  refine MSeq.range_seq (w.heap.size + 1) a0 (by omega) rfl hc0
    (fun pre W => (∃ v, Boxed W w.heap.size 47 v ∧ W.ownsRow (w.heap.size + 4) 84 3 v (impl_ParseTier.outOf pre).length ((impl_ParseTier.outOf pre).flatMap impl_ParseTier.enc) ∧ impl_ParseTier.outs [] pre = some (impl_ParseTier.outOf pre)) ∧ Below w.heap.size w W)
    (OwnFrom.and (Own.from (holdsRow_own (w.heap.size + 4) w.heap.size 47 84 3 (fun pre => (impl_ParseTier.outOf pre).length) (fun pre => (impl_ParseTier.outOf pre).flatMap impl_ParseTier.enc) (fun pre _ => impl_ParseTier.outs [] pre = some (impl_ParseTier.outOf pre))) _) (ownFrom_below (Nat.le_refl _) (by rw [hz]; omega)))
    (fun pre W u hi => ⟨⟨hi.1.choose, hi.1.choose_spec.1.kept (grownBy_setCell' W (w.heap.size + 1) u) (by simp), hi.1.choose_spec.2.1.kept (grownBy_setCell' W (w.heap.size + 1) u) (impl_ParseTier.row_far hi.1.choose_spec.2.1 (by omega)), hi.1.choose_spec.2.2⟩, hi.2.setCell (p := ⟨w.heap.size + 1, 0, none⟩) (by simp) u⟩)
    ⟨⟨_, b0, World.ownsRow_nil _ _ _ _, rfl⟩, hB0⟩
    (fun x => { tmps := #[.string a0, undef, .slice none 0 0, .bool false, .pointer (some ⟨w.heap.size, 0, none⟩), .string x, undef, undef, undef, undef, undef, undef, undef, .string a0, .func (.func 109) #[] #[.pointer (some ⟨w.heap.size + 1 + 1, 0, none⟩), .pointer (some ⟨w.heap.size + 1, 0, none⟩), .pointer (some ⟨w.heap.size + 1 + 2, 0, none⟩)], .string x, undef, undef, undef, undef, undef, undef, undef, undef, undef, undef, undef, undef, undef, undef, undef, undef, undef, undef, undef, undef, undef, undef, undef, undef, undef, undef, undef, undef, undef, undef, undef, undef, undef, undef, undef, undef, undef, undef, undef, undef, undef, undef, undef, undef, undef, undef, undef, undef], defers := [] }) ?assign ?body ?done
  case assign =>
    intro l x W K hK
    gi_wp2
    exact hK
  case body =>
    rintro l pre x v W ⟨⟨vo, hv, hrow, hG⟩, hB⟩ hC hpre hlt
    obtain ⟨rest, hpre⟩ := hpre
    obtain ⟨o, hst, ho2⟩ : ∃ o, impl_ParseTier.step (impl_ParseTier.outOf pre) x = some o ∧ impl_ParseTier.outs [] (pre ++ [x]) = some o := by
      rw [← hpre, impl_ParseTier.outs_app, impl_ParseTier.outs_app, hG] at ho
      rw [impl_ParseTier.outs_app, hG]
      simp only [Option.bind_some, impl_ParseTier.outs] at ho ⊢
      cases hst : impl_ParseTier.step (impl_ParseTier.outOf pre) x with
      | none => rw [hst] at ho; exact nomatch ho
      | some o => exact ⟨o, rfl, rfl⟩
    have eo : impl_ParseTier.outOf (pre ++ [x]) = o := by unfold impl_ParseTier.outOf; rw [ho2]; rfl
    rw [← eo] at ho2 hst
    obtain ⟨A, c, rfl⟩ := own_slice hrow
    clear hpre ho hc0 b0 hB0
    rw [hz] at hlt
    by_cases hx : x.toList = []
    · have e2 : impl_ParseTier.outOf (pre ++ [x]) = impl_ParseTier.outOf pre := by
        rw [impl_ParseTier.step, if_pos (Or.inl hx)] at hst
        exact (Option.some.inj hst).symm
      have hc := hv.cell
      gi_wp2
      exact ⟨KeepsOthers.refl _, ⟨⟨_, hv, by rw [e2]; exact hrow, ho2⟩, hB⟩, hC⟩
    · by_cases hn : 40 < (impl_ParseTier.outOf pre).length
      · have e2 : impl_ParseTier.outOf (pre ++ [x]) = impl_ParseTier.outOf pre := by
          rw [impl_ParseTier.step, if_pos (Or.inr hn)] at hst
          exact (Option.some.inj hst).symm
        have hc := hv.cell
        have hn1 : decide ((40 : Int) < ((impl_ParseTier.outOf pre).length : Int)) = true := decide_eq_true (by omega)
        gi_wp2
        exact ⟨KeepsOthers.refl _, ⟨⟨_, hv, by rw [e2]; exact hrow, ho2⟩, hB⟩, hC⟩
      · rw [impl_ParseTier.step, if_neg (fun h => h.elim hx hn)] at hst
        obtain ⟨n, hno, hst⟩ := Option.bind_eq_some_iff.mp hst
        have e2 := (Option.some.inj hst).symm
        unfold impl_ParseTier.note at hno
        obtain ⟨t, ht, hno⟩ := Option.bind_eq_some_iff.mp hno
        obtain ⟨⟨g1, g2, g3⟩, hg, hno⟩ := Option.bind_eq_some_iff.mp hno
        obtain ⟨⟨d1, d2, d3⟩, hd, hno⟩ := Option.bind_eq_some_iff.mp hno
        obtain ⟨⟨p1, p2⟩, hp, hno⟩ := Option.bind_eq_some_iff.mp hno
        obtain ⟨⟨q1, q2⟩, hq, hno⟩ := Option.bind_eq_some_iff.mp hno
        obtain rfl := Option.some.inj hno
        clear hst hno
        have hc := hv.cell
        have hn1 : decide ((40 : Int) < ((impl_ParseTier.outOf pre).length : Int)) = false := decide_eq_false (by omega)
        have hn2 : ((impl_ParseTier.outOf pre).length : Int) ≤ 40 := by omega
        have hx1 : (x.toList == []) = false := by simpa using hx
        gi_wp2
        refine ⟨trivial, ?_⟩
        refine (CallsIn.inRound l (callsIn_wide.2 (strings_TrimSuffix.calls x ⟨#[59]⟩ t W ht))).mono ?_
        rintro e W1 ⟨rfl, k1⟩
        have K1 := Aside0.mk k1.below
        clear k1
        gi_wp2
        refine ⟨trivial, ?_⟩
        refine (CallsIn.inRound l (callsIn_wide.2 (strings_Cut.calls t ⟨#[32]⟩ g1 g2 g3 W1 hg))).mono ?_
        rintro e W2 ⟨rfl, k2⟩
        have K2 := Aside0.mk (below_step K1.out k2.below)
        clear k2 K1
        gi_wp2
        refine ⟨trivial, ?_⟩
        refine (CallsIn.inRound l (callsIn_wide.2 (strings_Cut.calls g1 ⟨#[45]⟩ d1 d2 d3 W2 hd))).mono ?_
        rintro e W3 ⟨rfl, k3⟩
        have K3 := Aside0.mk (below_step K2.out k3.below)
        clear k3 K2 hc hn1 hn2 hx1
        gi_wp2
        have S3 := K3.out.size
        have K4 := Aside0.mk ((Below.refl W3.heap.size W3).alloc (Nat.le_refl _) (.cells #[.int .i64 0, .int .i64 0, .string g2] 84))
        have BK := Aside0.mk (blk_new W3 (.cells #[.int .i64 0, .int .i64 0, .string g2] 84))
        have T4 := MTabA.all hT _ (below_step (below_step hB K3.out) K4.out)
        generalize hW4 : W3.alloc (.cells #[.int .i64 0, .int .i64 0, .string g2] 84) = W4 at K4 BK T4 ⊢
        clear hW4
        refine ⟨trivial, ?_⟩
        refine (CallsIn.inRound l (callsIn_wide.2 (impl_decimal.calls d1 p1 p2 W4 T4 hp))).mono ?_
        rintro e W5 ⟨rfl, k5⟩
        have K5 := Aside0.mk (below_step K4.out k5)
        have BK5 := Aside0.mk (blk_below BK.out k5)
        clear k5 T4 K4 BK
        have z0 := (blk_cell BK5.out 0).trans rfl
        have y0 := blk_frozen BK5.out 0
        gi_wp2
        clear z0 y0
        have K6 := Aside0.mk (K5.out.setCell (p := ⟨W3.heap.size, 0, none⟩) (Nat.le_refl _) (.int .i64 p1))
        have BK6 := Aside0.mk (blk_put BK5.out 0 (.int .i64 p1) (cs' := #[.int .i64 p1, .int .i64 0, .string g2]) rfl)
        have T6 := MTabA.all hT _ (below_step (below_step hB K3.out) K6.out)
        generalize hW6 : W5.setCell ⟨W3.heap.size, 0, none⟩ (.int .i64 p1) = W6 at K6 BK6 T6 ⊢
        clear hW6 K5 BK5
        refine ⟨trivial, ?_⟩
        refine (CallsIn.inRound l (callsIn_wide.2 (impl_decimal.calls d2 q1 q2 W6 T6 hq))).mono ?_
        rintro e W7 ⟨rfl, k7⟩
        have K7 := Aside0.mk (below_step K6.out k7)
        have BK7 := Aside0.mk (blk_below BK6.out k7)
        clear k7 T6 K6 BK6
        have z1 := (blk_cell BK7.out 1).trans rfl
        have y1 := blk_frozen BK7.out 1
        have z0 := (blk_cell BK7.out 0).trans rfl
        have z2 := (blk_cell BK7.out 2).trans rfl
        have hc7 : W7.cell? ⟨w.heap.size, 0, none⟩ = some (.slice A (impl_ParseTier.outOf pre).length c) := (K7.out.cell (p := ⟨w.heap.size, 0, none⟩) (by show w.heap.size < W3.heap.size; omega)).trans ((K3.out.cell (p := ⟨w.heap.size, 0, none⟩) (by show w.heap.size < W.heap.size; omega)).trans hv.cell)
        have hne : ¬ W3.heap.size = w.heap.size := by omega
        have hrow8 : (W7.setCell ⟨W3.heap.size, 1, none⟩ (.int .i64 q1)).ownsRow (w.heap.size + 4) 84 3 (.slice A (impl_ParseTier.outOf pre).length c) (impl_ParseTier.outOf pre).length ((impl_ParseTier.outOf pre).flatMap impl_ParseTier.enc) := own_setCell (pw_own_below (pw_own_below hrow K3.out) K7.out) (impl_ParseTier.row_old hrow S3) _
        have hsz : (W7.setCell ⟨W3.heap.size, 1, none⟩ (.int .i64 q1)).heap.size = W7.heap.size := by simp
        have hnew : ∀ j u, [(.int .i64 p1 : Value), .int .i64 q1, .string g2][j]? = some u → ((W7.setCell ⟨W3.heap.size, 1, none⟩ (.int .i64 q1)).alloc (.cells #[.int .i64 p1, .int .i64 q1, .string g2] 84)).cell? ((⟨W7.heap.size, 0, none⟩ : Addr).add j) = some u := fun j u hj => by
          rw [Lib.add_plain, Nat.zero_add, ← hsz, blk_cell (blk_new _ _)]
          simpa using hj
        obtain ⟨i0, hi, hz0, hz1, hz2⟩ := info_parts info84
        have HN := Aside0.mk hnew
        have HR8 := Aside0.mk hrow8
        have HZ := Aside0.mk hsz
        have S7 := K7.out.size
        have hb1 : (impl_ParseTier.outOf pre).length + 1 ≤ maxLen := by unfold maxLen; omega
        have hb2 : ((impl_ParseTier.outOf pre).length + 1) * 32 ≤ 140737488355328 := by omega
        have hb3 : w.heap.size + 4 ≤ ((W7.setCell ⟨W3.heap.size, 1, none⟩ (.int .i64 q1)).alloc (.cells #[.int .i64 p1, .int .i64 q1, .string g2] 84)).heap.size := by rw [World.size_alloc, hsz]; omega
        clear hnew hrow8 hsz
        gi_wp2_with (gi_at_builtin; refine Hid.out ?_)
        refine Lib.hid ?_
        refine wpListIn_append_own _ rfl _ _ 47 rfl (w.heap.size + 4) 84 i0 _ 3 32 Tryd.underlying47 hi hz0 hz1 hz2 rfl (by decide) _ _ _ rfl (HR8.out.alloc _) _ 1 1 [.int .i64 p1, .int .i64 q1, .string g2] rfl rfl HN.out (by simp [Value.oneCell']) hb1 hb2 hb3 ?_
        intro v2 W9 hown hgrow _
        replace hgrow : ((W7.setCell ⟨W3.heap.size, 1, none⟩ (.int .i64 q1)).alloc (.cells #[.int .i64 p1, .int .i64 q1, .string g2] 84)).grownBy W9 (Value.slice A (impl_ParseTier.outOf pre).length c).ownBlock := hgrow
        obtain ⟨g', cap', rfl⟩ := ownsRow_succ hown
        have hv8 : Boxed (W7.setCell ⟨W3.heap.size, 1, none⟩ (.int .i64 q1)) w.heap.size 47 (.slice A (impl_ParseTier.outOf pre).length c) := blk_far (blk_below (blk_below hv K3.out) K7.out) (fun e => hne e.symm) _
        obtain ⟨hv1, hv2, _, hk2, hb2'⟩ := Boxed.appended hv8 (by decide) (own_weaken HR8.out (by omega)) (by rw [HZ.out]; omega) (Nat.le_refl _) (own_weaken hown (by omega)) hgrow
        have hc9 := hv1.cell
        have hf9 := hv1.frozen
        have HV2 := Aside0.mk hv2
        have HK2 := Aside0.mk hk2
        have HB2 := Aside0.mk hb2'
        clear hv2 hk2 hb2' hv1 z0 z1 z2 y1 hc7 hi hz0 hz1 hz2
        gi_wp2
        have K8 : Below W.heap.size W (W7.setCell ⟨W3.heap.size, 1, none⟩ (.int .i64 q1)) := (below_step K3.out K7.out).setCell (p := ⟨W3.heap.size, 1, none⟩) S3 _
        have hg4 : w.heap.size + 4 ≤ g' := by
          rcases hown.2 with ⟨e, _⟩ | ⟨g, cap, cur, e, hg, _⟩
          · exact nomatch e
          · simp only [Value.slice.injEq, Option.some.injEq, Addr.mk.injEq] at e
            omega
        have hk : ∀ j, w.heap.size < j → j < w.heap.size + 4 → (W9.setCell ⟨w.heap.size, 0, none⟩ (.slice (some ⟨g', 0, none⟩) ((impl_ParseTier.outOf pre).length + 1) cap')).heap[j]? = W.heap[j]? := fun j h1 h2 => by
          rw [Below.heap_setCell _ _ _ j (by simp; omega)]
          refine (hgrow.block j (by rw [World.size_alloc, HZ.out]; omega) ?_).trans ?_
          · rcases impl_ParseTier.row_far HR8.out (b := j) (by omega) with h | h
            · rw [h]; simp
            · exact fun e => h e.symm
          · exact (Below.heap_alloc _ _ j (by rw [HZ.out]; omega)).trans (K8.block j (by omega))
        have hcc : ∀ j i, w.heap.size < j → j < w.heap.size + 4 → (W9.setCell ⟨w.heap.size, 0, none⟩ (.slice (some ⟨g', 0, none⟩) ((impl_ParseTier.outOf pre).length + 1) cap')).cell? ⟨j, i, none⟩ = W.cell? ⟨j, i, none⟩ := fun j i h1 h2 => by
          simp only [World.cell?, hk j h1 h2]
        have hff : ∀ j i, w.heap.size < j → j < w.heap.size + 4 → (W9.setCell ⟨w.heap.size, 0, none⟩ (.slice (some ⟨g', 0, none⟩) ((impl_ParseTier.outOf pre).length + 1) cap')).frozen? ⟨j, i, none⟩ = W.frozen? ⟨j, i, none⟩ := fun j i h1 h2 => by
          simp only [World.frozen?, hk j h1 h2]
        have K0 : KeepsOthers W (W7.setCell ⟨W3.heap.size, 1, none⟩ (.int .i64 q1)) := ⟨K8.size, fun k o h _ => (K8.block k (blk_lt h)).trans h⟩
        have hR : (W9.setCell ⟨w.heap.size, 0, none⟩ (.slice (some ⟨g', 0, none⟩) ((impl_ParseTier.outOf pre).length + 1) cap')).ownsRow (w.heap.size + 4) 84 3 (.slice (some ⟨g', 0, none⟩) ((impl_ParseTier.outOf pre).length + 1) cap') ((impl_ParseTier.outOf pre).length + 1) ((impl_ParseTier.outOf pre).flatMap impl_ParseTier.enc ++ [.int .i64 p1, .int .i64 q1, .string g2]) := own_setCell hown (p := ⟨w.heap.size, 0, none⟩) (by simp [Value.ownBlock]; omega) _
        refine ⟨K0.trans HK2.out, ⟨⟨_, HV2.out, ?_, ho2⟩, (hB.trans (K8.mono hB.size)).trans HB2.out⟩, ?_⟩
        · rw [e2, List.length_append, List.flatMap_append]
          simpa [impl_ParseTier.enc] using hR
        · exact ⟨(hcc _ _ (by omega) (by omega)).trans hC.s, (hff _ _ (by omega) (by omega)).trans hC.fr, (hcc _ _ (by omega) (by omega)).trans hC.sep, (hcc _ _ (by omega) (by omega)).trans hC.save⟩
  case done =>
    rintro D W hD ⟨⟨vo, hv, hrow, hG⟩, hB⟩ hK
    rw [hz] at hD
    have eo : impl_ParseTier.outOf (MSeq.parts a0) = out := by unfold impl_ParseTier.outOf; rw [ho]; rfl
    rw [eo] at hrow
    clear hG eo hc0 b0 hB0 hz ho
    have HR : Kd.R k84 84 W (w.heap.size + 4) (fun _ => True) vo out := ⟨fun _ _ => trivial, _, hrow, impl_ParseTier.reps _ _ _ _⟩
    obtain ⟨A, c, rfl, hlc, hread⟩ := Kd.R_reads HR
    have hc := hv.cell
    gi_wp2
    refine ⟨trivial, ?_⟩
    refine (callsIn_wide.2 (impl_IsTier.calls k A c out ok W hread hlc hok)).mono ?_
    rintro e W1 ⟨rfl, hb1⟩
    have hc1 : W1.cell? ⟨w.heap.size, 0, none⟩ = some (.slice A out.length c) := (hb1.cell (p := ⟨w.heap.size, 0, none⟩) hv.lt).trans hc
    have hK1 := blk_below hK hb1
    have hB2 : Below w.heap.size w W1 := below_step hB hb1
    cases ok with
    | false =>
      have h := Option.some.inj h
      simp only [Prod.mk.injEq] at h
      obtain ⟨rfl, rfl⟩ := h
      gi_wp2
      refine ⟨trivial, ?_⟩
      gi_wp2
      refine ⟨by simp, .inl ⟨_, _, rfl, run_takeDeferred hK1, ?_⟩⟩
      exact ⟨_, results_tmp2 rfl _ _ _, _, rfl, Kd.R_nil _ _ _ _ _, hB2.trans (belowK_b (w := w) (Nat.le_refl _) W1 D _ _ (by omega) hK1 rfl rfl)⟩
    | true =>
      replace h : ((impl_tierText.f k out).bind fun t => if t.toList = a0.toList then some (out, true) else some ([], false)) = some (r1, r2) := h
      obtain ⟨t, ht, h⟩ := Option.bind_eq_some_iff.mp h
      have hread1 := Kd.C_below hread hb1
      gi_wp2
      refine ⟨trivial, ?_⟩
      refine (callsIn_wide.2 (impl_tierText.calls k A c out t W1 (MTabA.all hT _ hB2).1 hread1 hlc ht)).mono ?_
      rintro e W2 ⟨rfl, hb2⟩
      have hc2 : W2.cell? ⟨w.heap.size, 0, none⟩ = some (.slice A out.length c) := (hb2.cell (p := ⟨w.heap.size, 0, none⟩) (Nat.lt_of_lt_of_le hv.lt hb1.size)).trans hc1
      have hK2 := blk_below hK1 hb2
      have hB3 : Below w.heap.size w W2 := below_step hB2 hb2
      by_cases hq : t.toList = a0.toList
      · rw [if_pos hq] at h
        have h := Option.some.inj h
        simp only [Prod.mk.injEq] at h
        obtain ⟨rfl, rfl⟩ := h
        have hq1 : (t.toList == a0.toList) = true := beq_iff_eq.mpr hq
        clear hq
        gi_wp2
        refine ⟨by simp, .inl ⟨_, _, rfl, run_takeDeferred hK2, ?_⟩⟩
        have hrow2 := ownsRow_putObj (pw_own_below (pw_own_below hrow hb1) hb2) (.deferred none) hK2 rfl
        exact ⟨_, results_tmp2 rfl _ _ _, _, rfl, ⟨fun _ _ => trivial, _, own_weaken hrow2 (by omega), impl_ParseTier.reps _ _ _ _⟩, hB3.trans (belowK_b (w := w) (Nat.le_refl _) W2 D _ _ (by omega) hK2 rfl rfl)⟩
      · rw [if_neg hq] at h
        have h := Option.some.inj h
        simp only [Prod.mk.injEq] at h
        obtain ⟨rfl, rfl⟩ := h
        have hq1 : (t.toList == a0.toList) = false := beq_eq_false_iff_ne.mpr hq
        clear hq
        gi_wp2
        refine ⟨by simp, .inl ⟨_, _, rfl, run_takeDeferred hK2, ?_⟩⟩
        exact ⟨_, results_tmp2 rfl _ _ _, _, rfl, Kd.R_nil _ _ _ _ _, hB3.trans (belowK_b (w := w) (Nat.le_refl _) W2 D _ _ (by omega) hK2 rfl rfl)⟩
end

/-! ### laws_FnExactParseTier: function 4 -/
mutual
def laws_FnExactParseTier.j0 : Nat → ByteArray → List (S84) → Bool → List (S84) → Bool → Option (Bool)
  | 0, _, _, _, _, _ => none
  | k + 1, x0, x3, x4, x5, x32 => if x32 = true then (some false) else ((laws_markNoteS.f k x5 1).bind fun bt110 => ((laws_heldNoteS.f k bt110.2 1).bind fun t112 => (if t112 < 0 then (some false) else (if t112 = bt110.1 then ((impl_ParseTier.f k x0).bind fun bt113 => ((laws_eqNoteS.f k bt113.1 x3).bind fun t117 => (if t117 = true then (laws_FnExactParseTier.j1 k bt110.2 bt110.1 (bt113.2 != x4)) else (laws_FnExactParseTier.j1 k bt110.2 bt110.1 true)))) else (some false)))))
def laws_FnExactParseTier.j1 : Nat → List (S84) → Int → Bool → Option (Bool)
  | 0, _, _, _ => none
  | k + 1, x5, x7, x57 => if x57 = true then (some false) else ((laws_heldNoteS.f k x5 1).bind fun t118 => (if t118 < 0 then (some false) else (if t118 = x7 then (some true) else (some false))))
end
def laws_FnExactParseTier.f (k : Nat) (a0 : ByteArray) : Option (Bool) := if (a0.size : Int) > 1048576 then (some true) else ((spec_ParseTier.f k a0).bind fun bt101 => ((impl_ParseTier.f k a0).bind fun bt105 => ((laws_eqNoteS.f k bt105.1 bt101.1).bind fun t109 => (if t109 = true then (laws_FnExactParseTier.j0 k a0 bt101.1 bt101.2 bt105.1 (bt105.2 != bt101.2)) else (laws_FnExactParseTier.j0 k a0 bt101.1 bt101.2 bt105.1 true)))))
set_option maxHeartbeats 8000000 in
set_option maxRecDepth 100000 in
theorem laws_FnExactParseTier.calls (k : Nat) (a0 : ByteArray) (r : Bool) (w : World) (hT : MTabA.Tab w) (ht_ : Aside0 (r = true)) (h : laws_FnExactParseTier.f k a0 = some r) :
    Calls Tryd.prog 4 #[.string a0] w fun e w' => e = .returned (.bool r) ∧ Below w.heap.size w w' := by
  have HTab := Aside0.mk (MTabA.all hT); clear hT; have HB := Aside0.mk (Below.refl w.heap.size w)
  have H : (if (a0.size : Int) > 1048576 then (some true) else ((spec_ParseTier.f k a0).bind fun bt101 => ((impl_ParseTier.f k a0).bind fun bt105 => ((laws_eqNoteS.f k bt105.1 bt101.1).bind fun t109 => (if t109 = true then (laws_FnExactParseTier.j0 k a0 bt101.1 bt101.2 bt105.1 (bt105.2 != bt101.2)) else (laws_FnExactParseTier.j0 k a0 bt101.1 bt101.2 bt105.1 true)))))) = some r := h
  clear h
  by_cases c2 : (a0.size : Int) > 1048576
  · rw [if_pos c2] at H
    have c2b0 : decide (1048576 < (a0.size : Int)) = true := decide_eq_true c2
    have c2b1 : decide (1048576 < a0.size) = true := decide_eq_true (by omega)
    clear c2
    obtain rfl := Option.some.inj H
    go_enter Tryd.func4, Tryd.ntmps4
    go_wp2
    go_ret
    exact ⟨by first | rfl | (simp [errW_none, errW_some] <;> rfl) | (simp [*, errW_none, errW_some] <;> rfl), by repeat (first | (with_reducible first | exact HB.out | apply below_alloc | apply pw_below_drewN | apply below_drew1) | exact HB.out)⟩
  · rw [if_neg c2] at H
    have c2b0 : decide (1048576 < (a0.size : Int)) = false := decide_eq_false c2
    have c2b1 : decide (1048576 < a0.size) = false := decide_eq_false (by omega)
    clear c2
    replace H := Option.bind_eq_some_iff.mp H
    obtain ⟨⟨t101, t102⟩, A30, H⟩ := H
    replace H : ((impl_ParseTier.f k a0).bind fun bt105 => ((laws_eqNoteS.f k bt105.1 t101).bind fun t109 => (if t109 = true then (laws_FnExactParseTier.j0 k a0 t101 t102 bt105.1 (bt105.2 != t102)) else (laws_FnExactParseTier.j0 k a0 t101 t102 bt105.1 true)))) = some r := H
    have A3 := Aside0.mk A30
    clear A30
    replace H := Option.bind_eq_some_iff.mp H
    obtain ⟨⟨t105, t106⟩, A40, H⟩ := H
    replace H : ((laws_eqNoteS.f k t105 t101).bind fun t109 => (if t109 = true then (laws_FnExactParseTier.j0 k a0 t101 t102 t105 (t106 != t102)) else (laws_FnExactParseTier.j0 k a0 t101 t102 t105 true))) = some r := H
    have A4 := Aside0.mk A40
    clear A40
    have HC5 := Aside0.mk H
    clear H
    go_enter Tryd.func4, Tryd.ntmps4
    go_upto_region 5 with (first | ((with_reducible refine gate_callee (f := 24) rfl ?_); refine goesL_ (some 16) rfl rfl Tryd.func24 (by kernel_rfl) rfl #[.string a0] rfl (by (try simp only [List.map_toArray, List.map_cons, List.map_nil]); first | done | rfl | (simp only [List.length_drop, List.length_take]; rfl)) ?_; (with_reducible refine (spec_ParseTier.calls k a0 t101 t102 _ A3.out).mono ?_); rintro e w6 ⟨v103, rfl, ho0, hb⟩; refine ⟨_, rfl, ?_⟩; have n0_ := Aside0.mk (Kd.R_lower ho0 (below_size (by repeat (first | (with_reducible first | exact HB.out | apply below_alloc | apply pw_below_drewN | apply below_drew1) | exact HB.out)))); have n1_ := Aside0.mk (below_step (by repeat (first | (with_reducible first | exact HB.out | apply below_alloc | apply pw_below_drewN | apply below_drew1) | exact HB.out)) hb); clear HB; have HO104 := n0_; have HB := n1_; clear n0_ n1_; (try clear hb); (try clear hb2); (try clear hk); (try clear hi); (try clear ho0)) | ((with_reducible refine gate_callee (f := 25) rfl ?_); refine goesL_ (some 21) rfl rfl Tryd.func25 (by kernel_rfl) rfl #[.string a0] rfl (by (try simp only [List.map_toArray, List.map_cons, List.map_nil]); first | done | rfl | (simp only [List.length_drop, List.length_take]; rfl)) ?_; (with_reducible refine (impl_ParseTier.calls k a0 t105 t106 _ (HTab.out _ (by repeat (first | (with_reducible first | exact HB.out | apply below_alloc | apply pw_below_drewN | apply below_drew1) | exact HB.out))) A4.out).mono ?_); rintro e w7 ⟨v107, rfl, ho0, hb⟩; refine ⟨_, rfl, ?_⟩; have n0_ := Aside0.mk (Kd.R_elder' (by (with_reducible repeat (first | apply Kd.R_alloc | apply Kd.R_drewN | apply Kd.R_drew)); exact HO104.out) (Kd.R_base ho0) hb); have n1_ := Aside0.mk (Kd.R_lower (Kd.R_new' ho0 (Kd.R_lt (by (with_reducible repeat (first | apply Kd.R_alloc | apply Kd.R_drewN | apply Kd.R_drew)); exact HO104.out))) (below_size (by repeat (first | (with_reducible first | exact HB.out | apply below_alloc | apply pw_below_drewN | apply below_drew1) | exact HB.out)))); have n2_ := Aside0.mk (below_step (by repeat (first | (with_reducible first | exact HB.out | apply below_alloc | apply pw_below_drewN | apply below_drew1) | exact HB.out)) hb); clear HO104; clear HB; have HO104 := n0_; have HO108 := n1_; have HB := n2_; clear n0_ n1_ n2_; (try clear hb); (try clear hb2); (try clear hk); (try clear hi); (try clear ho0)))
    (try simp only [Act.put, List.setIfInBounds_toArray, List.set_cons_zero, List.set_cons_succ])
    go_cut [32] (fun v32 wc => ∃ (kq : Nat) (x32_4 : Bool), v32 = .bool x32_4 ∧ Aside0 (laws_FnExactParseTier.j0 kq a0 t101 t102 t105 x32_4 = some r) ∧ Aside0 (kq ≤ k) ∧ Aside0 (Kd.R k84 84 wc w.heap.size (fun k_ => some k_ ≠ (v107 : Value).ownBlock) v103 t101) ∧ Aside0 (Kd.R k84 84 wc w.heap.size (fun k_ => some k_ ≠ (v103 : Value).ownBlock) v107 t105) ∧ Aside0 (Below w.heap.size w wc))
    case first =>
      have H := HC5.out
      clear HC5
      replace H := Option.bind_eq_some_iff.mp H
      obtain ⟨t109, A80, H⟩ := H
      replace H : (if t109 = true then (laws_FnExactParseTier.j0 k a0 t101 t102 t105 (t106 != t102)) else (laws_FnExactParseTier.j0 k a0 t101 t102 t105 true)) = some r := H
      have A8 := Aside0.mk A80
      clear A80
      by_cases c9 : t109 = true
      · subst c9
        have H1 : (laws_FnExactParseTier.j0 k a0 t101 t102 t105 (t106 != t102)) = some r := by rw [if_pos rfl] at H; exact H
        clear H
        have H := H1
        clear H1
        have H' := Aside0.mk H
        clear H
        obtain ⟨Ao10, co10, eo10⟩ := Kd.R_slice HO108.out
        subst eo10
        obtain ⟨Ao11, co11, eo11⟩ := Kd.R_slice HO104.out
        subst eo11
        go_wp2_with (first | ((with_reducible refine gate_callee (f := 26) rfl ?_); refine goesL_ (some 26) rfl rfl Tryd.func26 (by kernel_rfl) rfl #[.slice Ao10 t105.length co10, .slice Ao11 t101.length co11] rfl (by (try simp only [List.map_toArray, List.map_cons, List.map_nil]); first | done | rfl | (simp only [List.length_drop, List.length_take]; rfl)) ?_; (with_reducible refine (laws_eqNoteS.calls k _ _ t105 _ _ t101 true _ ?side1 ?side2 ?side3 ?side4 A8.out).mono ?_); (case side1 => repeat (first | exact (Kd.R_reads' HO108.out).2.2 | (with_reducible refine Kd.C_alloc ?_ _) | (with_reducible refine Kd.C_drewN ?_ _) | (with_reducible refine Kd.C_drew ?_))); (case side2 => exact (Kd.R_reads' HO108.out).2.1); (case side3 => repeat (first | exact (Kd.R_reads' HO104.out).2.2 | (with_reducible refine Kd.C_alloc ?_ _) | (with_reducible refine Kd.C_drewN ?_ _) | (with_reducible refine Kd.C_drew ?_))); (case side4 => exact (Kd.R_reads' HO104.out).2.1); rintro e w12 ⟨rfl, hb⟩; refine ⟨_, rfl, ?_⟩; have n0_ := Aside0.mk (Kd.R_below (by (with_reducible repeat (first | apply Kd.R_alloc | apply Kd.R_drewN | apply Kd.R_drew)); exact HO104.out) hb); have n1_ := Aside0.mk (Kd.R_below (by (with_reducible repeat (first | apply Kd.R_alloc | apply Kd.R_drewN | apply Kd.R_drew)); exact HO108.out) hb); have n2_ := Aside0.mk (below_step (by repeat (first | (with_reducible first | exact HB.out | apply below_alloc | apply pw_below_drewN | apply below_drew1) | exact HB.out)) hb); clear HO104; clear HO108; clear HB; have HO104 := n0_; have HO108 := n1_; have HB := n2_; clear n0_ n1_ n2_; (try clear hb); (try clear hb2); (try clear hk); (try clear hi)))
        go_meet
        case rel => exact ⟨_, ((t106 != t102)), (by first | rfl | (simp; done) | (simp [*]; done)), H', ⟨by first | omega | exact Nat.le_refl _⟩, ⟨by (with_reducible repeat (first | apply Kd.R_alloc | apply Kd.R_drewN | apply Kd.R_drew)); exact Kd.R_mono HO104.out (fun _ hk => hk.2)⟩, ⟨by (with_reducible repeat (first | apply Kd.R_alloc | apply Kd.R_drewN | apply Kd.R_drew)); exact Kd.R_mono HO108.out (fun _ hk => hk.2)⟩, ⟨by repeat (first | (with_reducible first | exact HB.out | apply below_alloc | apply pw_below_drewN | apply below_drew1) | exact HB.out)⟩⟩
      · replace c9 := Bool.eq_false_iff.mpr c9
        subst c9
        have H1 : (laws_FnExactParseTier.j0 k a0 t101 t102 t105 true) = some r := by rw [if_neg (show ¬ (false = true) by decide)] at H; exact H
        clear H
        have H := H1
        clear H1
        have H' := Aside0.mk H
        clear H
        obtain ⟨Ao13, co13, eo13⟩ := Kd.R_slice HO108.out
        subst eo13
        obtain ⟨Ao14, co14, eo14⟩ := Kd.R_slice HO104.out
        subst eo14
        go_wp2_with (first | ((with_reducible refine gate_callee (f := 26) rfl ?_); refine goesL_ (some 26) rfl rfl Tryd.func26 (by kernel_rfl) rfl #[.slice Ao13 t105.length co13, .slice Ao14 t101.length co14] rfl (by (try simp only [List.map_toArray, List.map_cons, List.map_nil]); first | done | rfl | (simp only [List.length_drop, List.length_take]; rfl)) ?_; (with_reducible refine (laws_eqNoteS.calls k _ _ t105 _ _ t101 false _ ?side1 ?side2 ?side3 ?side4 A8.out).mono ?_); (case side1 => repeat (first | exact (Kd.R_reads' HO108.out).2.2 | (with_reducible refine Kd.C_alloc ?_ _) | (with_reducible refine Kd.C_drewN ?_ _) | (with_reducible refine Kd.C_drew ?_))); (case side2 => exact (Kd.R_reads' HO108.out).2.1); (case side3 => repeat (first | exact (Kd.R_reads' HO104.out).2.2 | (with_reducible refine Kd.C_alloc ?_ _) | (with_reducible refine Kd.C_drewN ?_ _) | (with_reducible refine Kd.C_drew ?_))); (case side4 => exact (Kd.R_reads' HO104.out).2.1); rintro e w15 ⟨rfl, hb⟩; refine ⟨_, rfl, ?_⟩; have n0_ := Aside0.mk (Kd.R_below (by (with_reducible repeat (first | apply Kd.R_alloc | apply Kd.R_drewN | apply Kd.R_drew)); exact HO104.out) hb); have n1_ := Aside0.mk (Kd.R_below (by (with_reducible repeat (first | apply Kd.R_alloc | apply Kd.R_drewN | apply Kd.R_drew)); exact HO108.out) hb); have n2_ := Aside0.mk (below_step (by repeat (first | (with_reducible first | exact HB.out | apply below_alloc | apply pw_below_drewN | apply below_drew1) | exact HB.out)) hb); clear HO104; clear HO108; clear HB; have HO104 := n0_; have HO108 := n1_; have HB := n2_; clear n0_ n1_ n2_; (try clear hb); (try clear hb2); (try clear hk); (try clear hi)))
        go_meet
        case rel => exact ⟨_, (true), (by first | rfl | (simp; done) | (simp [*]; done)), H', ⟨by first | omega | exact Nat.le_refl _⟩, ⟨by (with_reducible repeat (first | apply Kd.R_alloc | apply Kd.R_drewN | apply Kd.R_drew)); exact Kd.R_mono HO104.out (fun _ hk => hk.2)⟩, ⟨by (with_reducible repeat (first | apply Kd.R_alloc | apply Kd.R_drewN | apply Kd.R_drew)); exact Kd.R_mono HO108.out (fun _ hk => hk.2)⟩, ⟨by repeat (first | (with_reducible first | exact HB.out | apply below_alloc | apply pw_below_drewN | apply below_drew1) | exact HB.out)⟩⟩
    case rest =>
      clear HC5
      try clear c2
      try clear c2b0
      try clear c2b1
      try clear p2
      try clear c4
      try clear c9
      obtain ⟨kq, x32_4, rfl, HA, HJ4, HO_3, HO_5, HB⟩ := hcut
      cases kq with
      | zero => exact absurd HA.out (by simp [laws_FnExactParseTier.j0])
      | succ kj4 =>
        have H := HA.out
        clear HA
        simp only [laws_FnExactParseTier.j0] at H
        by_cases c16 : x32_4 = true
        · subst c16
          have H1 : (some false) = some r := by rw [if_pos rfl] at H; exact H
          clear H
          have H := H1
          clear H1
          exact absurd (Option.some.inj H) (by rw [ht_.out]; decide)
        · replace c16 := Bool.eq_false_iff.mpr c16
          subst c16
          have H1 : ((laws_markNoteS.f kj4 t105 1).bind fun bt110 => ((laws_heldNoteS.f kj4 bt110.2 1).bind fun t112 => (if t112 < 0 then (some false) else (if t112 = bt110.1 then ((impl_ParseTier.f kj4 a0).bind fun bt113 => ((laws_eqNoteS.f kj4 bt113.1 t101).bind fun t117 => (if t117 = true then (laws_FnExactParseTier.j1 kj4 bt110.2 bt110.1 (bt113.2 != t102)) else (laws_FnExactParseTier.j1 kj4 bt110.2 bt110.1 true)))) else (some false))))) = some r := by rw [if_neg (show ¬ (false = true) by decide)] at H; exact H
          clear H
          have H := H1
          clear H1
          replace H := Option.bind_eq_some_iff.mp H
          obtain ⟨⟨t110, t111⟩, A170, H⟩ := H
          replace H : ((laws_heldNoteS.f kj4 t111 1).bind fun t112 => (if t112 < 0 then (some false) else (if t112 = t110 then ((impl_ParseTier.f kj4 a0).bind fun bt113 => ((laws_eqNoteS.f kj4 bt113.1 t101).bind fun t117 => (if t117 = true then (laws_FnExactParseTier.j1 kj4 t111 t110 (bt113.2 != t102)) else (laws_FnExactParseTier.j1 kj4 t111 t110 true)))) else (some false)))) = some r := H
          have A17 := Aside0.mk A170
          clear A170
          replace H := Option.bind_eq_some_iff.mp H
          obtain ⟨t112, A180, H⟩ := H
          replace H : (if t112 < 0 then (some false) else (if t112 = t110 then ((impl_ParseTier.f kj4 a0).bind fun bt113 => ((laws_eqNoteS.f kj4 bt113.1 t101).bind fun t117 => (if t117 = true then (laws_FnExactParseTier.j1 kj4 t111 t110 (bt113.2 != t102)) else (laws_FnExactParseTier.j1 kj4 t111 t110 true)))) else (some false))) = some r := H
          have A18 := Aside0.mk A180
          clear A180
          by_cases c19 : t112 < 0
          · rw [if_pos c19] at H
            have c19b0 : decide (t112 < 0) = true := decide_eq_true c19
            clear c19
            exact absurd (Option.some.inj H) (by rw [ht_.out]; decide)
          · rw [if_neg c19] at H
            have c19b0 : decide (t112 < 0) = false := decide_eq_false c19
            clear c19
            by_cases c20 : t112 = t110
            · rw [if_pos c20] at H
              have c20b0 : (t112 == t110) = true := beq_iff_eq.mpr c20
              have c20b1 : (t112 != t110) = false := bne_eq_false_iff_eq.mpr c20
              clear c20
              replace H := Option.bind_eq_some_iff.mp H
              obtain ⟨⟨t113, t114⟩, A210, H⟩ := H
              replace H : ((laws_eqNoteS.f kj4 t113 t101).bind fun t117 => (if t117 = true then (laws_FnExactParseTier.j1 kj4 t111 t110 (t114 != t102)) else (laws_FnExactParseTier.j1 kj4 t111 t110 true))) = some r := H
              have A21 := Aside0.mk A210
              clear A210
              have HC22 := Aside0.mk H
              clear H
              obtain ⟨Ao23, co23, eo23⟩ := Kd.R_slice HO_5.out
              subst eo23
              go_upto_region 16 with (first | ((with_reducible refine gate_callee (f := 27) rfl ?_); refine goesL_ (some 35) rfl rfl Tryd.func27 (by kernel_rfl) rfl #[.slice Ao23 t105.length co23, .int .i64 1] rfl (by (try simp only [List.map_toArray, List.map_cons, List.map_nil]); first | done | rfl | (simp only [List.length_drop, List.length_take]; rfl)) ?_; (with_reducible refine (laws_markNoteS.calls kj4 (fun k_ => some k_ = (.slice Ao23 t105.length co23 : Value).ownBlock) (.slice Ao23 t105.length co23) t105 1 t110 t111 w _ ?side1 ?side2 A17.out).mono ?_); (case side1 => repeat (first | (with_reducible first | exact HB.out | apply below_alloc | apply pw_below_drewN | apply below_drew1) | exact HB.out)); (case side2 => exact Kd.R_tight rfl HO_5.out); rintro e w24 ⟨rfl, hy0, hb, hkp⟩; refine ⟨_, rfl, ?_⟩; have n0_ := Aside0.mk (Kd.R_mono (ok' := fun k_ => some k_ ≠ (.slice Ao23 t105.length co23 : Value).ownBlock) (Kd.R_keptB (HO_3.out) hkp (fun k_ hk_ hs_ => (hk_) hs_)) (fun k_ hk_ => hk_.1)); have n1_ := Aside0.mk (Kd.R_reok rfl hy0 (fun k_ e_ => HO_5.out.1 k_ e_)); have n2_ := Aside0.mk (hb); clear HO_3; clear HO_5; clear HB; have HO_3 := n0_; have HO_5 := n1_; have HB := n2_; clear n0_ n1_ n2_; (try clear hb); (try clear hkp); (try clear hy0)) | ((with_reducible refine gate_callee (f := 28) rfl ?_); refine goesL_ (some 38) rfl rfl Tryd.func28 (by kernel_rfl) rfl #[.slice Ao23 t111.length co23, .int .i64 1] rfl (by (try simp only [List.map_toArray, List.map_cons, List.map_nil]); first | done | (rw [show t111.length = t105.length from (Kd.R_reads' HO_5.out).1.symm] <;> rfl) | rfl | (simp only [List.length_drop, List.length_take]; rfl)) ?_; (with_reducible refine (laws_heldNoteS.calls kj4 _ _ t111 1 t112 _ ?side1 ?side2 A18.out).mono ?_); (case side1 => repeat (first | exact (Kd.R_reads' HO_5.out).2.2 | (with_reducible refine Kd.C_alloc ?_ _) | (with_reducible refine Kd.C_drewN ?_ _) | (with_reducible refine Kd.C_drew ?_))); (case side2 => rw [show t111.length = t105.length from (Kd.R_reads' HO_5.out).1.symm]; exact (Kd.R_reads' HO_5.out).2.1); rintro e w25 ⟨rfl, hb⟩; refine ⟨_, rfl, ?_⟩; have n0_ := Aside0.mk (Kd.R_below (by (with_reducible repeat (first | apply Kd.R_alloc | apply Kd.R_drewN | apply Kd.R_drew)); exact HO_3.out) hb); have n1_ := Aside0.mk (Kd.R_below (by (with_reducible repeat (first | apply Kd.R_alloc | apply Kd.R_drewN | apply Kd.R_drew)); exact HO_5.out) hb); have n2_ := Aside0.mk (below_step (by repeat (first | (with_reducible first | exact HB.out | apply below_alloc | apply pw_below_drewN | apply below_drew1) | exact HB.out)) hb); clear HO_3; clear HO_5; clear HB; have HO_3 := n0_; have HO_5 := n1_; have HB := n2_; clear n0_ n1_ n2_; (try clear hb); (try clear hb2); (try clear hk); (try clear hi)) | ((with_reducible refine gate_callee (f := 25) rfl ?_); refine goesL_ (some 46) rfl rfl Tryd.func25 (by kernel_rfl) rfl #[.string a0] rfl (by (try simp only [List.map_toArray, List.map_cons, List.map_nil]); first | done | rfl | (simp only [List.length_drop, List.length_take]; rfl)) ?_; (with_reducible refine (impl_ParseTier.calls kj4 a0 t113 t114 _ (HTab.out _ (by repeat (first | (with_reducible first | exact HB.out | apply below_alloc | apply pw_below_drewN | apply below_drew1) | exact HB.out))) A21.out).mono ?_); rintro e w26 ⟨v115, rfl, ho0, hb⟩; refine ⟨_, rfl, ?_⟩; have n0_ := Aside0.mk (Kd.R_elder' (by (with_reducible repeat (first | apply Kd.R_alloc | apply Kd.R_drewN | apply Kd.R_drew)); exact HO_3.out) (Kd.R_base ho0) hb); have n1_ := Aside0.mk (Kd.R_elder' (by (with_reducible repeat (first | apply Kd.R_alloc | apply Kd.R_drewN | apply Kd.R_drew)); exact HO_5.out) (Kd.R_base ho0) hb); have n2_ := Aside0.mk (Kd.R_lower (Kd.R_new' (Kd.R_new' ho0 (Kd.R_lt (by (with_reducible repeat (first | apply Kd.R_alloc | apply Kd.R_drewN | apply Kd.R_drew)); exact HO_3.out))) (Kd.R_lt (by (with_reducible repeat (first | apply Kd.R_alloc | apply Kd.R_drewN | apply Kd.R_drew)); exact HO_5.out))) (below_size (by repeat (first | (with_reducible first | exact HB.out | apply below_alloc | apply pw_below_drewN | apply below_drew1) | exact HB.out)))); have n3_ := Aside0.mk (below_step (by repeat (first | (with_reducible first | exact HB.out | apply below_alloc | apply pw_below_drewN | apply below_drew1) | exact HB.out)) hb); clear HO_3; clear HO_5; clear HB; have HO_3 := n0_; have HO_5 := n1_; have HO116 := n2_; have HB := n3_; clear n0_ n1_ n2_ n3_; (try clear hb); (try clear hb2); (try clear hk); (try clear hi); (try clear ho0)))
              (try simp only [Act.put, List.setIfInBounds_toArray, List.set_cons_zero, List.set_cons_succ])
              go_cut [57] (fun v57 wc => ∃ (kq : Nat) (x57_21 : Bool), v57 = .bool x57_21 ∧ Aside0 (laws_FnExactParseTier.j1 kq t111 t110 x57_21 = some r) ∧ Aside0 (kq ≤ kj4) ∧ Aside0 (Kd.R k84 84 wc w.heap.size (fun _ => True) (.slice Ao23 t105.length co23) t111) ∧ Aside0 (Below w.heap.size w wc))
              case first =>
                have H := HC22.out
                clear HC22
                replace H := Option.bind_eq_some_iff.mp H
                obtain ⟨t117, A270, H⟩ := H
                replace H : (if t117 = true then (laws_FnExactParseTier.j1 kj4 t111 t110 (t114 != t102)) else (laws_FnExactParseTier.j1 kj4 t111 t110 true)) = some r := H
                have A27 := Aside0.mk A270
                clear A270
                by_cases c28 : t117 = true
                · subst c28
                  have H1 : (laws_FnExactParseTier.j1 kj4 t111 t110 (t114 != t102)) = some r := by rw [if_pos rfl] at H; exact H
                  clear H
                  have H := H1
                  clear H1
                  have H' := Aside0.mk H
                  clear H
                  obtain ⟨Ao29, co29, eo29⟩ := Kd.R_slice HO116.out
                  subst eo29
                  obtain ⟨Ao30, co30, eo30⟩ := Kd.R_slice HO_3.out
                  subst eo30
                  go_wp2_with (first | ((with_reducible refine gate_callee (f := 26) rfl ?_); refine goesL_ (some 51) rfl rfl Tryd.func26 (by kernel_rfl) rfl #[.slice Ao29 t113.length co29, .slice Ao30 t101.length co30] rfl (by (try simp only [List.map_toArray, List.map_cons, List.map_nil]); first | done | rfl | (simp only [List.length_drop, List.length_take]; rfl)) ?_; (with_reducible refine (laws_eqNoteS.calls kj4 _ _ t113 _ _ t101 true _ ?side1 ?side2 ?side3 ?side4 A27.out).mono ?_); (case side1 => repeat (first | exact (Kd.R_reads' HO116.out).2.2 | (with_reducible refine Kd.C_alloc ?_ _) | (with_reducible refine Kd.C_drewN ?_ _) | (with_reducible refine Kd.C_drew ?_))); (case side2 => exact (Kd.R_reads' HO116.out).2.1); (case side3 => repeat (first | exact (Kd.R_reads' HO_3.out).2.2 | (with_reducible refine Kd.C_alloc ?_ _) | (with_reducible refine Kd.C_drewN ?_ _) | (with_reducible refine Kd.C_drew ?_))); (case side4 => exact (Kd.R_reads' HO_3.out).2.1); rintro e w31 ⟨rfl, hb⟩; refine ⟨_, rfl, ?_⟩; have n0_ := Aside0.mk (Kd.R_below (by (with_reducible repeat (first | apply Kd.R_alloc | apply Kd.R_drewN | apply Kd.R_drew)); exact HO_3.out) hb); have n1_ := Aside0.mk (Kd.R_below (by (with_reducible repeat (first | apply Kd.R_alloc | apply Kd.R_drewN | apply Kd.R_drew)); exact HO_5.out) hb); have n2_ := Aside0.mk (Kd.R_below (by (with_reducible repeat (first | apply Kd.R_alloc | apply Kd.R_drewN | apply Kd.R_drew)); exact HO116.out) hb); have n3_ := Aside0.mk (below_step (by repeat (first | (with_reducible first | exact HB.out | apply below_alloc | apply pw_below_drewN | apply below_drew1) | exact HB.out)) hb); clear HO_3; clear HO_5; clear HO116; clear HB; have HO_3 := n0_; have HO_5 := n1_; have HO116 := n2_; have HB := n3_; clear n0_ n1_ n2_ n3_; (try clear hb); (try clear hb2); (try clear hk); (try clear hi)))
                  go_meet
                  case rel => exact ⟨_, ((t114 != t102)), (by first | rfl | (simp; done) | (simp [*]; done)), H', ⟨by have := HJ4.out; first | omega | exact Nat.le_refl _⟩, ⟨by (with_reducible repeat (first | apply Kd.R_alloc | apply Kd.R_drewN | apply Kd.R_drew)); exact Kd.R_mono HO_5.out (fun _ hk => trivial)⟩, ⟨by repeat (first | (with_reducible first | exact HB.out | apply below_alloc | apply pw_below_drewN | apply below_drew1) | exact HB.out)⟩⟩
                · replace c28 := Bool.eq_false_iff.mpr c28
                  subst c28
                  have H1 : (laws_FnExactParseTier.j1 kj4 t111 t110 true) = some r := by rw [if_neg (show ¬ (false = true) by decide)] at H; exact H
                  clear H
                  have H := H1
                  clear H1
                  have H' := Aside0.mk H
                  clear H
                  obtain ⟨Ao32, co32, eo32⟩ := Kd.R_slice HO116.out
                  subst eo32
                  obtain ⟨Ao33, co33, eo33⟩ := Kd.R_slice HO_3.out
                  subst eo33
                  go_wp2_with (first | ((with_reducible refine gate_callee (f := 26) rfl ?_); refine goesL_ (some 51) rfl rfl Tryd.func26 (by kernel_rfl) rfl #[.slice Ao32 t113.length co32, .slice Ao33 t101.length co33] rfl (by (try simp only [List.map_toArray, List.map_cons, List.map_nil]); first | done | rfl | (simp only [List.length_drop, List.length_take]; rfl)) ?_; (with_reducible refine (laws_eqNoteS.calls kj4 _ _ t113 _ _ t101 false _ ?side1 ?side2 ?side3 ?side4 A27.out).mono ?_); (case side1 => repeat (first | exact (Kd.R_reads' HO116.out).2.2 | (with_reducible refine Kd.C_alloc ?_ _) | (with_reducible refine Kd.C_drewN ?_ _) | (with_reducible refine Kd.C_drew ?_))); (case side2 => exact (Kd.R_reads' HO116.out).2.1); (case side3 => repeat (first | exact (Kd.R_reads' HO_3.out).2.2 | (with_reducible refine Kd.C_alloc ?_ _) | (with_reducible refine Kd.C_drewN ?_ _) | (with_reducible refine Kd.C_drew ?_))); (case side4 => exact (Kd.R_reads' HO_3.out).2.1); rintro e w34 ⟨rfl, hb⟩; refine ⟨_, rfl, ?_⟩; have n0_ := Aside0.mk (Kd.R_below (by (with_reducible repeat (first | apply Kd.R_alloc | apply Kd.R_drewN | apply Kd.R_drew)); exact HO_3.out) hb); have n1_ := Aside0.mk (Kd.R_below (by (with_reducible repeat (first | apply Kd.R_alloc | apply Kd.R_drewN | apply Kd.R_drew)); exact HO_5.out) hb); have n2_ := Aside0.mk (Kd.R_below (by (with_reducible repeat (first | apply Kd.R_alloc | apply Kd.R_drewN | apply Kd.R_drew)); exact HO116.out) hb); have n3_ := Aside0.mk (below_step (by repeat (first | (with_reducible first | exact HB.out | apply below_alloc | apply pw_below_drewN | apply below_drew1) | exact HB.out)) hb); clear HO_3; clear HO_5; clear HO116; clear HB; have HO_3 := n0_; have HO_5 := n1_; have HO116 := n2_; have HB := n3_; clear n0_ n1_ n2_ n3_; (try clear hb); (try clear hb2); (try clear hk); (try clear hi)))
                  go_meet
                  case rel => exact ⟨_, (true), (by first | rfl | (simp; done) | (simp [*]; done)), H', ⟨by have := HJ4.out; first | omega | exact Nat.le_refl _⟩, ⟨by (with_reducible repeat (first | apply Kd.R_alloc | apply Kd.R_drewN | apply Kd.R_drew)); exact Kd.R_mono HO_5.out (fun _ hk => trivial)⟩, ⟨by repeat (first | (with_reducible first | exact HB.out | apply below_alloc | apply pw_below_drewN | apply below_drew1) | exact HB.out)⟩⟩
              case rest =>
                clear HC22
                try clear c1
                try clear c2
                try clear c2b0
                try clear c2b1
                try clear p2
                try clear c4
                try clear c9
                try clear c16
                try clear c19
                try clear c19b0
                try clear c20
                try clear c20b0
                try clear c20b1
                try clear c24
                try clear c25
                try clear c26
                try clear c27
                try clear c28
                try clear p2
                obtain ⟨kq, x57_21, rfl, HA, HJ21, HO_5, HB⟩ := hcut
                have hl5_21 := (Kd.R_reads' HO_5.out).1
                rw [hl5_21] at HO_5
                (try simp only [hl5_21])
                cases kq with
                | zero => exact absurd HA.out (by simp [laws_FnExactParseTier.j1])
                | succ kj21 =>
                  have H := HA.out
                  clear HA
                  simp only [laws_FnExactParseTier.j1] at H
                  by_cases c35 : x57_21 = true
                  · subst c35
                    have H1 : (some false) = some r := by rw [if_pos rfl] at H; exact H
                    clear H
                    have H := H1
                    clear H1
                    exact absurd (Option.some.inj H) (by rw [ht_.out]; decide)
                  · replace c35 := Bool.eq_false_iff.mpr c35
                    subst c35
                    have H1 : ((laws_heldNoteS.f kj21 t111 1).bind fun t118 => (if t118 < 0 then (some false) else (if t118 = t110 then (some true) else (some false)))) = some r := by rw [if_neg (show ¬ (false = true) by decide)] at H; exact H
                    clear H
                    have H := H1
                    clear H1
                    replace H := Option.bind_eq_some_iff.mp H
                    obtain ⟨t118, A360, H⟩ := H
                    replace H : (if t118 < 0 then (some false) else (if t118 = t110 then (some true) else (some false))) = some r := H
                    have A36 := Aside0.mk A360
                    clear A360
                    by_cases c37 : t118 < 0
                    · rw [if_pos c37] at H
                      have c37b0 : decide (t118 < 0) = true := decide_eq_true c37
                      clear c37
                      exact absurd (Option.some.inj H) (by rw [ht_.out]; decide)
                    · rw [if_neg c37] at H
                      have c37b0 : decide (t118 < 0) = false := decide_eq_false c37
                      clear c37
                      by_cases c38 : t118 = t110
                      · rw [if_pos c38] at H
                        have c38b0 : (t118 == t110) = true := beq_iff_eq.mpr c38
                        have c38b1 : (t118 != t110) = false := bne_eq_false_iff_eq.mpr c38
                        clear c38
                        obtain rfl := Option.some.inj H
                        go_wp2_with (first | ((with_reducible refine gate_callee (f := 28) rfl ?_); refine goesL_ (some 60) rfl rfl Tryd.func28 (by kernel_rfl) rfl #[.slice Ao23 t111.length co23, .int .i64 1] rfl (by (try simp only [List.map_toArray, List.map_cons, List.map_nil]); first | done | rfl | (simp only [List.length_drop, List.length_take]; rfl)) ?_; (with_reducible refine (laws_heldNoteS.calls kj21 _ _ t111 1 t118 _ ?side1 ?side2 A36.out).mono ?_); (case side1 => repeat (first | exact (Kd.R_reads' HO_5.out).2.2 | (with_reducible refine Kd.C_alloc ?_ _) | (with_reducible refine Kd.C_drewN ?_ _) | (with_reducible refine Kd.C_drew ?_))); (case side2 => exact (Kd.R_reads' HO_5.out).2.1); rintro e w39 ⟨rfl, hb⟩; refine ⟨_, rfl, ?_⟩; have n0_ := Aside0.mk (Kd.R_below (by (with_reducible repeat (first | apply Kd.R_alloc | apply Kd.R_drewN | apply Kd.R_drew)); exact HO_5.out) hb); have n1_ := Aside0.mk (below_step (by repeat (first | (with_reducible first | exact HB.out | apply below_alloc | apply pw_below_drewN | apply below_drew1) | exact HB.out)) hb); clear HO_5; clear HB; have HO_5 := n0_; have HB := n1_; clear n0_ n1_; (try clear hb); (try clear hb2); (try clear hk); (try clear hi)))
                        go_ret
                        exact ⟨by first | rfl | (simp [errW_none, errW_some] <;> rfl) | (simp [*, errW_none, errW_some] <;> rfl), by repeat (first | (with_reducible first | exact HB.out | apply below_alloc | apply pw_below_drewN | apply below_drew1) | exact HB.out)⟩
                      · rw [if_neg c38] at H
                        have c38b0 : (t118 == t110) = false := beq_eq_false_iff_ne.mpr c38
                        have c38b1 : (t118 != t110) = true := bne_iff_ne.mpr c38
                        exact absurd (Option.some.inj H) (by rw [ht_.out]; decide)
            · rw [if_neg c20] at H
              have c20b0 : (t112 == t110) = false := beq_eq_false_iff_ne.mpr c20
              have c20b1 : (t112 != t110) = true := bne_iff_ne.mpr c20
              exact absurd (Option.some.inj H) (by rw [ht_.out]; decide)

/-- THE ONE PURE STATEMENT of laws_FnExactParseTier. -/
def laws_FnExactParseTier.Pure : Prop := ∀ (a0 : ByteArray), a0.size ≤ 140737488351232 → ∃ k, laws_FnExactParseTier.f k a0 = some true
theorem laws_FnExactParseTier.walk (P : laws_FnExactParseTier.Pure) (a0 : ByteArray) (w : World) (hT : MTabA.Tab w) (b0 : a0.size ≤ 140737488351232) :
    Calls Tryd.prog 4 #[.string a0] w fun e w' => e = .returned (.bool true) ∧ Below w.heap.size w w' := by
  obtain ⟨k, h⟩ := P a0 b0
  refine (laws_FnExactParseTier.calls k a0 true w hT ⟨rfl⟩ h).mono ?_
  rintro e w' ⟨rfl, hd⟩
  exact ⟨rfl, hd⟩

end Go.Proofs.YtpdcopbnhaoilaaDoor.G
