-- Written by this session's own program over the kit's print (wip/tools/myprint.py); Lean checks it.
import Derived.Test.YtphjmmaeolbggaaG0
import Derived.Test.YtphjmmaeolbggaaG28
import Derived.Test.YtphjmmaeolbggaaMOwn
namespace Go.Proofs.Ytphjmmaeolbggaa.G
open Go.RowKit Go.Proofs.YtphjmmaeolbggaaW.PrintWords Go.Proofs.YtphjmmaeolbggaaW.PrintLast Go.Proofs.YtphjmmaeolbggaaW.PrintMore
attribute [local go_sem] max2_int min2_int max_two min_two max_three min_three max_four min_four str_geq str_gtr str_leq   -- for this text's walks alone
set_option linter.unusedVariables false
set_option linter.unusedSimpArgs false

/-! ### slices_DeleteFunc_Note: function 90 -/
def slices_DeleteFunc_Note.zc (m : Nat) : List Value := (Builtin.zeroCells #[.int .i64 0, .int .i64 0, .string ⟨#[]⟩] m).toList
theorem slices_DeleteFunc_Note.zc_succ (m : Nat) : slices_DeleteFunc_Note.zc (m + 1) = .int .i64 0 :: .int .i64 0 :: .string ⟨#[]⟩ :: slices_DeleteFunc_Note.zc m := by
  unfold slices_DeleteFunc_Note.zc Builtin.zeroCells
  have e : (m + 1) * 3 = 3 + m * 3 := by omega
  show ((Array.range ((m + 1) * 3)).map _).toList = _
  rw [e]
  simp [List.range_add, List.map_map]
  have h : ∀ x, (3 + x) % 3 = x % 3 := fun x => by omega
  simp only [Function.comp_def, h]
  rfl
theorem slices_DeleteFunc_Note.zc_length : ∀ m, (slices_DeleteFunc_Note.zc m).length = m * 3
  | 0 => by simp [slices_DeleteFunc_Note.zc, Builtin.zeroCells]
  | m + 1 => by rw [slices_DeleteFunc_Note.zc_succ]; simp [slices_DeleteFunc_Note.zc_length m]; omega
theorem slices_DeleteFunc_Note.zc_one : ∀ m, ∀ v ∈ slices_DeleteFunc_Note.zc m, v.oneCell' = true
  | 0 => by intro v hv; simp [slices_DeleteFunc_Note.zc, Builtin.zeroCells] at hv
  | m + 1 => by
    intro v hv
    rw [slices_DeleteFunc_Note.zc_succ] at hv
    simp only [List.mem_cons] at hv
    rcases hv with rfl | rfl | rfl | hv
    · rfl
    · rfl
    · rfl
    · exact slices_DeleteFunc_Note.zc_one m v hv
theorem slices_DeleteFunc_Note.clr {base g n cap : Nat} {ok : Nat → Prop} : ∀ (m i : Nat) (xs : List S81) (W : World), i + m = n → Kd.R k81 81 W base ok (.slice (some ⟨g, 0, none⟩) n cap) xs → ∃ ys : List S81, ys.length = n ∧ ys.take i = xs.take i ∧ Kd.R k81 81 (W.setCells g (i * 3) (slices_DeleteFunc_Note.zc m)) base ok (.slice (some ⟨g, 0, none⟩) n cap) ys
  | 0, i, xs, W, _, h => ⟨xs, (Kd.R_reads' h).1.symm, rfl, by simpa [slices_DeleteFunc_Note.zc, Builtin.zeroCells, World.setCells] using h⟩
  | m + 1, i, xs, W, hi, h => by
    have h0 : (0 : Int) ≤ (i : Int) := by omega
    have h1 : (i : Int) < (n : Int) := by omega
    obtain ⟨ce, hcl, hM, hcc, _⟩ := Kd.R_elem h z81 (i : Int) h0 h1
    have z := (Kd.R_seg h (i : Int) h0 h1 (seg := [.int .i64 0, .int .i64 0, .string ⟨#[]⟩]) (j := 0) hcl hcc (show 0 + 3 ≤ 3 by decide) (x' := z81) (okp := fun k => ok k ∧ k ≠ g) (by rw [List.take_zero, List.drop_eq_nil_of_le (by rw [hcl]; exact Nat.le_refl 3)]; exact k81_mkM _ _ _ z81) (fun _ hk => hk)).1
    obtain ⟨ys, h2, h3, h4⟩ := slices_DeleteFunc_Note.clr m (i + 1) _ _ (by omega) z
    refine ⟨ys, h2, ?_, ?_⟩
    · have h5 := congrArg (List.take i) h3
      rw [List.take_take, List.take_take, Nat.min_eq_left (by omega), List.take_set_of_le (by simp)] at h5
      exact h5
    · rw [slices_DeleteFunc_Note.zc_succ]
      have e : (i + 1) * 3 = i * 3 + 1 + 1 + 1 := by omega
      rw [e] at h4
      exact h4
theorem slices_DeleteFunc_Note.clear {base g n cap : Nat} {ok : Nat → Prop} {xs : List S81} {W : World} (h : Kd.R k81 81 W base ok (.slice (some ⟨g, 0, none⟩) n cap) xs) (m i c : Nat) (hi : i + m = n) (hm : 0 < m) (ty : TypeId) :
    (Builtin.clear_ #[37] ty #[.slice (some ⟨g, i * 3, none⟩) m c]).run Try.prog W = .ok (.tuple #[]) (W.setCells g (i * 3) (slices_DeleteFunc_Note.zc m)) := by
  have hcell : ∀ q, q < (slices_DeleteFunc_Note.zc m).length → (W.cell? ⟨g, i * 3 + 0 + q, none⟩).isSome = true ∧ W.frozen? ⟨g, i * 3 + 0 + q, none⟩ = false := by
    intro q hq
    rw [slices_DeleteFunc_Note.zc_length] at hq
    obtain ⟨ce, hcl, _, hcc, hfr⟩ := Kd.R_elem h z81 ((i + q / 3 : Nat) : Int) (by omega) (by omega)
    have e : (((i + q / 3 : Nat) : Int)).toNat * 3 + q % 3 = i * 3 + 0 + q := by rw [Int.toNat_natCast]; omega
    have h1 := hfr (q % 3)
    have hlt : q % 3 < ce.length := by rw [hcl]; exact Nat.mod_lt _ (by decide)
    have h2 := hcc (q % 3) _ (List.getElem?_eq_getElem hlt)
    rw [show (k81).sz = 3 from rfl, e] at h1 h2
    exact ⟨by rw [h2]; rfl, h1⟩
  have hst := run_storeCells_cells (P := Try.prog) g (i * 3) (slices_DeleteFunc_Note.zc m) 0 W (fun j hj => (hcell j hj).1) (fun j hj => (hcell j hj).2) (slices_DeleteFunc_Note.zc_one m)
  rw [Nat.add_zero] at hst
  obtain ⟨m, rfl⟩ : ∃ k, m = k + 1 := ⟨m - 1, by omega⟩
  have hz : (zeroValue 81).run Try.prog W = .ok (.agg #[.int .i64 0, .int .i64 0, .string ⟨#[]⟩]) W := by
    obtain ⟨i0, hi0, hz0, _, _⟩ := info_parts info81
    simp [zeroValue, typeInfo, hi0, hz0, Result.andThen]
  have hst2 : (storeCells ⟨g, i * 3, none⟩ (Builtin.zeroCells (Value.agg #[.int .i64 0, .int .i64 0, .string ⟨#[]⟩]).cells (m + 1)).toList 0).run Try.prog W = .ok () (W.setCells g (i * 3) (slices_DeleteFunc_Note.zc (m + 1))) := hst
  simp [Builtin.clear_, run_underlying Try.underlying37, hz, hst2, Result.andThen]
theorem slices_DeleteFunc_Note.filter_none (p : S81 → Bool) (l : List S81) (h : ∀ x, x ∈ l → p x = false) : l.filter (fun x => !p x) = l := by
  rw [List.filter_eq_self]
  intro x hx
  rw [h x hx]; rfl
theorem slices_DeleteFunc_Note.take_set_next {α : Type} {l : List α} {n : Nat} {y : α} (h : n < l.length) : (l.set n y).take (n + 1) = l.take n ++ [y] := by
  rw [List.take_succ_eq_append_getElem (by rw [List.length_set]; exact h), List.take_set_of_le (Nat.le_refl _)]
  simp
theorem slices_DeleteFunc_Note.bel {w1 : World} {g : Nat} (hg : w1.heap.size ≤ g) : ∀ (vs : List Value) (o : Nat) (w : World), Below w1.heap.size w1 w → Below w1.heap.size w1 (w.setCells g o vs)
  | [], _, _, h => h
  | _ :: r, o, _, h => slices_DeleteFunc_Note.bel hg r (o + 1) _ (below_set h hg)
theorem slices_DeleteFunc_Note.take_next {α : Type} {l : List α} {n : Nat} {y : α} (h : l.drop n = y :: l.drop (n + 1)) : l.take (n + 1) = l.take n ++ [y] := by
  have hn : n < l.length := by
    rcases Nat.lt_or_ge n l.length with h1 | h1
    · exact h1
    · rw [List.drop_eq_nil_of_le h1] at h; exact absurd h (by simp)
  rw [List.take_succ_eq_append_getElem hn]
  rw [List.drop_eq_getElem_cons hn] at h
  rw [(List.cons.inj h).1]
set_option maxHeartbeats 4000000 in
set_option maxRecDepth 100000 in
/-- slices.DeleteFunc of a row of one's own, with a predicate that leaves all that lay in its world as it was. -/
theorem slices_DeleteFunc_Note.with (p : S81 → Bool) (g : Nat) (lb : Array Value) (eg : ∀ args w, (callFunc g args).run Try.prog w = .ok (.enter g args) w) (A0 : Option Addr) (c0 : Nat) (l0 : List S81) (w0 w : World) (hB : Below w0.heap.size w0 w) (hr0 : Kd.R k81 81 w w0.heap.size (fun _ => True) (.slice A0 l0.length c0) l0)
    (hp : ∀ (W : World) (x : S81), Below w0.heap.size w0 W → Calls Try.prog g (#[.agg #[.int .i64 x.f0, .int .i64 x.f1, .string x.f2]] ++ lb) W fun e w' => e = .returned (.bool (p x)) ∧ Below W.heap.size W w') :
    Calls Try.prog 90 #[.slice A0 l0.length c0, .func (.func g) #[] lb] w fun e w' => ∃ v, e = .returned v ∧ Kd.R k81 81 w' w0.heap.size (fun _ => True) v (l0.filter (fun x => !p x)) ∧ Below w0.heap.size w0 w' := by
  have HI := Aside0.mk (slices_IndexFunc_Note_119.with p g lb eg A0 c0 l0 w (Kd.R_reads' hr0).2.2 (fun W x hb => (hp W x (hB.trans (hb.mono hB.size))).mono (fun e w' h => ⟨h.1, hb.trans (h.2.mono hb.size)⟩)))
  have HR := Aside0.mk hr0
  have HP := Aside0.mk hp
  have HB := Aside0.mk hB
  have HL := Aside0.mk (Kd.R_reads' hr0).2.2.2.1
  have HCC := Aside0.mk (Kd.R_reads' hr0).2.1
  obtain ⟨i0, hi0, _, hsz0, _⟩ := info_parts info81
  have HI0 := Aside0.mk hi0
  have HSZ0 := Aside0.mk hsz0
  clear hr0 hp hB hi0 hsz0
  go_enter Try.func90, Try.ntmps90
  go_wp2_with fail
  refine HI.out.mono ?_
  clear HI
  rintro e wa ⟨rfl, hb⟩
  have HRA := Aside0.mk (Kd.R_below HR.out hb)
  have HBA := Aside0.mk (HB.out.trans (hb.mono HB.out.size))
  clear hb HR HB
  cases hf : l0.findIdx? p with
  | none =>
    have hall : ∀ x, x ∈ l0 → p x = false := by simpa using List.findIdx?_eq_none_iff.1 hf
    have hq : idxOf p l0 = -1 := by unfold idxOf; rw [hf]
    rw [hq]
    have HF := Aside0.mk (slices_DeleteFunc_Note.filter_none p l0 hall)
    clear hf hq hall
    go_wp2
    go_ret
    exact ⟨_, rfl, by (with_reducible repeat (first | apply Kd.R_drewN | apply Kd.R_drew)); rw [HF.out]; exact HRA.out, by repeat (first | (with_reducible first | exact HBA.out | apply pw_below_drewN | apply below_drew1) | exact HBA.out)⟩
  | some m =>
    have hq : idxOf p l0 = (m : Int) := by unfold idxOf; rw [hf]
    rw [hq]
    obtain ⟨hm, hpm, hbm⟩ := List.findIdx?_eq_some_iff_getElem.1 hf
    clear hf hq
    have hw0 : wrap64 ((m : Int) + 1) = (m : Int) + 1 := by have := HL.out; unfold wrap64; omega
    have HW0 := Aside0.mk hw0
    have b0 : ((m : Int) == -1) = false := by simp
    have HM := Aside0.mk hm
    have HST := Aside0.mk (show l0.take m = (l0.take (m + 1)).filter (fun x => !p x) by
      rw [List.take_succ_eq_append_getElem hm, List.filter_append, slices_DeleteFunc_Note.filter_none p (l0.take m) (fun x hx => by
        obtain ⟨j, hj, rfl⟩ := List.mem_iff_getElem.1 hx
        rw [List.length_take] at hj
        rw [List.getElem_take]
        simpa using hbm j (by omega))]
      simp [hpm])
    clear hm hpm hbm hw0
    obtain ⟨gb, capb, he, hgb, _, _, _⟩ := Kd.R_form HRA.out (by have := HM.out; omega)
    obtain ⟨rfl, -, -⟩ := Value.slice.inj he
    have HGB := Aside0.mk hgb
    clear he hgb
    go_wp2
    go_loopg [5, 6] l0.length (fun gg s5 s6 wr => ∃ (i j : Int) (cur : List S81), s5 = .int .i64 i ∧ s6 = .int .i64 j ∧ Aside0 (0 ≤ i ∧ i < j ∧ j ≤ (l0.length : Int) ∧ (l0.length : Int) - j ≤ (gg : Int)) ∧ Aside0 (cur.length = l0.length ∧ cur.take i.toNat = (l0.take j.toNat).filter (fun x => !p x) ∧ cur.drop j.toNat = l0.drop j.toNat) ∧ Aside0 (Kd.R k81 81 wr w0.heap.size (fun _ => True) (.slice (some ⟨gb, 0, none⟩) l0.length c0) cur) ∧ Aside0 (Below w0.heap.size w0 wr))
    case atStart => exact ⟨m, m + 1, l0, rfl, by first | rfl | (rw [HW0.out]) | (simp [HW0.out]), ⟨by have := HM.out; omega⟩, ⟨rfl, by rw [Int.toNat_natCast, show ((m : Int) + 1).toNat = m + 1 by omega]; exact HST.out, rfl⟩, ⟨by (with_reducible repeat (first | apply Kd.R_drewN | apply Kd.R_drew)); exact HRA.out⟩, ⟨by repeat (first | (with_reducible first | exact HBA.out | apply pw_below_drewN | apply below_drew1) | exact HBA.out)⟩⟩
    case round =>
      clear HRA HBA
      obtain ⟨i, j, cur, rfl, rfl, HX, HC, HO, HB⟩ := hrel
      by_cases hlt : j < (l0.length : Int)
      · have p1 : 0 ≤ j := by have := HX.out; omega
        have q1 := hlt
        have hw : wrap64 (j + 1) = j + 1 := by have := HL.out; unfold wrap64; omega
        have hwi : wrap64 (i + 1) = i + 1 := by have := HL.out; have := HX.out; unfold wrap64; omega
        have HWJ := Aside0.mk hw
        have HWI := Aside0.mk hwi
        have HLT := Aside0.mk hlt
        obtain ⟨y, hdr⟩ : ∃ y, l0.drop j.toNat = y :: l0.drop (j.toNat + 1) := ⟨_, List.drop_eq_getElem_cons (show j.toNat < l0.length by omega)⟩
        have hgy : cur.getD j.toNat z81 = y := by
          have h1 := HC.out.2.2
          rw [hdr] at h1
          have h2 := congrArg (fun l => l.getD 0 z81) h1
          simpa [List.getD_eq_getElem?_getD, List.getElem?_drop] using h2
        have HDR := Aside0.mk hdr
        obtain ⟨ce, hcl, hM, hcc, _⟩ := Kd.R_elem HO.out z81 j p1 q1
        rw [hgy] at hM
        obtain rfl := k81_openM hM
        have hy0 : wr.cell? ⟨gb, j.toNat * 3, none⟩ = some (.int .i64 y.f0) := hcc 0 _ rfl
        have hy1 : wr.cell? ⟨gb, j.toNat * 3 + 1, none⟩ = some (.int .i64 y.f1) := hcc 1 _ rfl
        have hy2 : wr.cell? ⟨gb, j.toNat * 3 + 2, none⟩ = some (.string y.f2) := hcc 2 _ rfl
        have HGY := Aside0.mk hgy
        have b1 : decide (j < (l0.length : Int)) = true := decide_eq_true hlt
        clear hcl hM hcc hlt hdr hgy hw hwi
        replace p1 := eq_true p1
        replace q1 := eq_true q1
        go_wp2_with fail
        refine MOwn.named ?_
        intro wa hWa
        have HB1 := Aside0.mk (show Below w0.heap.size w0 wa by subst hWa; exact HB.out.alloc HB.out.size _)
        have HO1 := Aside0.mk (show Kd.R k81 81 wa w0.heap.size (fun _ => True) (.slice (some ⟨gb, 0, none⟩) l0.length c0) cur by subst hWa; exact Kd.R_alloc HO.out _)
        have hv0 : wa.cell? ⟨wr.heap.size, 0, none⟩ = some (.int .i64 y.f0) := by subst hWa; simp
        have hv1 : wa.cell? ⟨wr.heap.size, 1, none⟩ = some (.int .i64 y.f1) := by subst hWa; simp
        have hv2 : wa.cell? ⟨wr.heap.size, 2, none⟩ = some (.string y.f2) := by subst hWa; simp
        have hsz : wr.heap.size < wa.heap.size := by subst hWa; simp
        have hgv : gb ≠ wr.heap.size := by
          obtain ⟨_, _, he, _, h3, _⟩ := Kd.R_form HO.out (by have := HC.out.1; have := HLT.out; have := HX.out; omega)
          injection he with h4 _ _
          injection h4 with h4
          injection h4 with h4 _ _
          omega
        obtain ⟨vb, hvb⟩ : ∃ z, wr.heap.size = z := ⟨_, rfl⟩
        rw [hvb] at hv0 hv1 hv2 hsz hgv ⊢
        clear hWa hy0 hy1 hy2 hvb HB HO
        refine (HP.out wa y HB1.out).mono ?_
        rintro e wb ⟨rfl, hb⟩
        have HB := Aside0.mk (HB1.out.trans (hb.mono HB1.out.size))
        have HO := Aside0.mk (Kd.R_below HO1.out hb)
        replace hv0 := (hb.cell (p := ⟨vb, 0, none⟩) hsz).trans hv0
        replace hv1 := (hb.cell (p := ⟨vb, 1, none⟩) hsz).trans hv1
        replace hv2 := (hb.cell (p := ⟨vb, 2, none⟩) hsz).trans hv2
        clear hb hsz HB1 HO1
        cases hq : p y with
        | true =>
          have HQ := Aside0.mk hq
          clear hq
          go_wp2
          go_roundg (l0.length - (j.toNat + 1))
          case measure => have := HX.out; have := HLT.out; omega
          case rel =>
            have hx := HX.out
            have hl := HLT.out
            have hn : (j + 1).toNat = j.toNat + 1 := by omega
            refine ⟨i, j + 1, cur, rfl, by first | rfl | (rw [HWJ.out]) | (simp [HWJ.out]), ⟨by omega⟩, ⟨HC.out.1, ?_, ?_⟩, ⟨by (with_reducible repeat (first | apply Kd.R_drewN | apply Kd.R_drew)); exact HO.out⟩, ⟨by repeat (first | (with_reducible first | exact HB.out | apply pw_below_drewN | apply below_drew1) | exact HB.out)⟩⟩
            · rw [hn, HC.out.2.1, slices_DeleteFunc_Note.take_next HDR.out, List.filter_append]
              simp [HQ.out]
            · rw [hn]
              have h1 := congrArg (List.drop 1) HC.out.2.2
              simpa [List.drop_drop] using h1
        | false =>
          have HQ := Aside0.mk hq
          clear hq
          have hi0 : 0 ≤ i := HX.out.1
          have hi1 : i < (l0.length : Int) := by have := HX.out; have := HLT.out; omega
          obtain ⟨ce, hcl, hM, hcc, hfr⟩ := Kd.R_elem HO.out z81 i hi0 hi1
          obtain rfl := k81_openM hM
          have hs0 : wb.cell? ⟨gb, i.toNat * 3, none⟩ = some (.int .i64 (rd_T81 cur i).f0) := hcc 0 _ rfl
          have hs1 : wb.cell? ⟨gb, i.toNat * 3 + 1, none⟩ = some (.int .i64 (rd_T81 cur i).f1) := hcc 1 _ rfl
          have hs2 : wb.cell? ⟨gb, i.toNat * 3 + 2, none⟩ = some (.string (rd_T81 cur i).f2) := hcc 2 _ rfl
          have hf0 : wb.frozen? ⟨gb, i.toNat * 3, none⟩ = false := hfr 0
          have hf1 : wb.frozen? ⟨gb, i.toNat * 3 + 1, none⟩ = false := hfr 1
          have hf2 : wb.frozen? ⟨gb, i.toNat * 3 + 2, none⟩ = false := hfr 2
          have z := (Kd.R_seg HO.out i hi0 hi1 (seg := [.int .i64 y.f0, .int .i64 y.f1, .string y.f2]) (j := 0) hcl hcc (show 0 + 3 ≤ 3 by decide) (x' := y) (okp := fun k => True ∧ k ≠ gb) (k81_mkM _ _ _ y) (fun _ hk => hk)).1
          have HZ := Aside0.mk z
          clear hcl hM hcc hfr z
          have p3 := eq_true hi0
          have q3 := eq_true hi1
          clear hi0 hi1
          go_wp2
          clear hs0 hs1 hs2 hf0 hf1 hf2 hv0 hv1 hv2
          have HB2 := Aside0.mk (show Below w0.heap.size w0 (((wb.setCell ⟨gb, i.toNat * 3, none⟩ (.int .i64 y.f0)).setCell ⟨gb, i.toNat * 3 + 1, none⟩ (.int .i64 y.f1)).setCell ⟨gb, i.toNat * 3 + 2, none⟩ (.string y.f2)) from below_set (below_set (below_set HB.out HGB.out) HGB.out) HGB.out)
          have HZ2 := Aside0.mk (show Kd.R k81 81 (((wb.setCell ⟨gb, i.toNat * 3, none⟩ (.int .i64 y.f0)).setCell ⟨gb, i.toNat * 3 + 1, none⟩ (.int .i64 y.f1)).setCell ⟨gb, i.toNat * 3 + 2, none⟩ (.string y.f2)) w0.heap.size (fun _ => True) (.slice (some ⟨gb, 0, none⟩) l0.length c0) (cur.set i.toNat y) from HZ.out)
          clear HZ HB HO
          generalize (((wb.setCell ⟨gb, i.toNat * 3, none⟩ (.int .i64 y.f0)).setCell ⟨gb, i.toNat * 3 + 1, none⟩ (.int .i64 y.f1)).setCell ⟨gb, i.toNat * 3 + 2, none⟩ (.string y.f2)) = wz at HZ2 HB2 ⊢
          go_roundg (l0.length - (j.toNat + 1))
          case measure => have := HX.out; have := HLT.out; omega
          case rel =>
            have hx := HX.out
            have hl := HLT.out
            have hn : (j + 1).toNat = j.toNat + 1 := by omega
            have hni : (i + 1).toNat = i.toNat + 1 := by omega
            refine ⟨i + 1, j + 1, cur.set i.toNat y, by first | rfl | (rw [HWI.out]) | (simp [HWI.out]), by first | rfl | (rw [HWJ.out]) | (simp [HWJ.out]), ⟨by omega⟩, ⟨by rw [List.length_set]; exact HC.out.1, ?_, ?_⟩, ⟨HZ2.out⟩, ⟨HB2.out⟩⟩
            · rw [hn, hni, slices_DeleteFunc_Note.take_set_next (by rw [HC.out.1]; omega), HC.out.2.1, slices_DeleteFunc_Note.take_next HDR.out, List.filter_append]
              simp [HQ.out]
            · rw [hn, List.drop_set_of_lt (by omega)]
              have h1 := congrArg (List.drop 1) HC.out.2.2
              simpa [List.drop_drop] using h1
      · have b1 : decide (j < (l0.length : Int)) = false := decide_eq_false hlt
        have hjn : j.toNat = l0.length := by have := HX.out; omega
        have hi1 : i < (l0.length : Int) := by have := HX.out; omega
        have hfin : cur.take i.toNat = l0.filter (fun x => !p x) := by rw [HC.out.2.1, hjn, List.take_length]
        have HFIN := Aside0.mk hfin
        have hi0 : 0 ≤ i := HX.out.1
        obtain ⟨k, hk⟩ : ∃ k : Nat, i = (k : Int) := ⟨i.toNat, by omega⟩
        subst hk
        have hkn : k < l0.length := by omega
        have hcut1 := cut_from (P := Try.prog) 37 81 .i64 Try.underlying37 HI0.out _ HSZ0.out (some ⟨gb, 0, none⟩) l0.length c0 (k : Int) (by omega) (by omega)
        have hcut2 := cut_to (P := Try.prog) 37 81 .i64 Try.underlying37 HI0.out (some ⟨gb, 0, none⟩) l0.length c0 (k : Int) (by omega) (by omega) HCC.out
        have hcne : ¬ c0 = k := by have := HCC.out; omega
        have hadd : (⟨gb, 0, none⟩ : Addr).add (k * 3) = ⟨gb, k * 3, none⟩ := by unfold Addr.add; split <;> simp_all
        rw [Int.toNat_natCast, if_neg hcne, Option.map_some, hadd] at hcut1
        rw [Int.toNat_natCast] at hcut2
        have hcl := fun ty => slices_DeleteFunc_Note.clear HO.out (l0.length - k) k (c0 - k) (by omega) (by omega) ty
        obtain ⟨ys, hy1, hy2, hy3⟩ := slices_DeleteFunc_Note.clr (l0.length - k) k cur wr (by omega) HO.out
        have HYS := Aside0.mk hy3
        have HY2 := Aside0.mk hy2
        have HBZ := Aside0.mk (show Below w0.heap.size w0 (wr.setCells gb (k * 3) (slices_DeleteFunc_Note.zc (l0.length - k))) from slices_DeleteFunc_Note.bel HGB.out _ _ _ HB.out)
        have HKY := Aside0.mk (show k ≤ ys.length by omega)
        clear hy1 hy2 hy3 hi0 hi1 hkn hcne hadd hjn hfin hlt
        go_wp2
        go_ret
        have z := Kd.R_take HYS.out HKY.out
        rw [HY2.out] at z
        exact ⟨_, rfl, by rw [← HFIN.out]; exact z, HBZ.out⟩

end Go.Proofs.Ytphjmmaeolbggaa.G
