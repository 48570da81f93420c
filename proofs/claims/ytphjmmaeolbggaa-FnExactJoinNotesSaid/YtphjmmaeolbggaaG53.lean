-- Written by this session's own program over the kit's print (wip/tools/myprint.py); Lean checks it.
import Derived.Test.YtphjmmaeolbggaaG0
import Derived.Test.YtphjmmaeolbggaaG50
import Derived.Test.YtphjmmaeolbggaaMReg
namespace Go.Proofs.Ytphjmmaeolbggaa.G
open Go.RowKit Go.Proofs.YtphjmmaeolbggaaW.PrintWords Go.Proofs.YtphjmmaeolbggaaW.PrintLast Go.Proofs.YtphjmmaeolbggaaW.PrintMore
attribute [local go_sem] max2_int min2_int max_two min_two max_three min_three max_four min_four str_geq str_gtr str_leq   -- for this text's walks alone
set_option linter.unusedVariables false
set_option linter.unusedSimpArgs false

/-! ### slices_Delete_Note: function 107 -/
def slices_Delete_Note.cellsOf : List S81 → List Value
  | [] => []
  | x :: xs => .int .i64 x.f0 :: .int .i64 x.f1 :: .string x.f2 :: slices_Delete_Note.cellsOf xs
theorem slices_Delete_Note.cells_length : ∀ xs, (slices_Delete_Note.cellsOf xs).length = xs.length * 3
  | [] => rfl
  | x :: xs => by
    show (slices_Delete_Note.cellsOf xs).length + 1 + 1 + 1 = (xs.length + 1) * 3
    rw [slices_Delete_Note.cells_length xs]; omega
theorem slices_Delete_Note.cells_one : ∀ xs, ∀ v ∈ slices_Delete_Note.cellsOf xs, v.oneCell' = true
  | [] => by intro v hv; cases hv
  | x :: xs => by
    intro v hv
    simp only [slices_Delete_Note.cellsOf, List.mem_cons] at hv
    rcases hv with rfl | rfl | rfl | hv
    · rfl
    · rfl
    · rfl
    · exact slices_Delete_Note.cells_one xs v hv
theorem slices_Delete_Note.cells_get : ∀ (xs : List S81) (j : Nat) (u : Value), (slices_Delete_Note.cellsOf xs)[j]? = some u → ∃ x, xs[j / 3]? = some x ∧ ([.int .i64 x.f0, .int .i64 x.f1, .string x.f2] : List Value)[j % 3]? = some u
  | [], j, u, h => by simp [slices_Delete_Note.cellsOf] at h
  | x :: xs, 0, u, h => ⟨x, rfl, h⟩
  | x :: xs, 1, u, h => ⟨x, rfl, h⟩
  | x :: xs, 2, u, h => ⟨x, rfl, h⟩
  | x :: xs, j + 3, u, h => by
    obtain ⟨y, h1, h2⟩ := slices_Delete_Note.cells_get xs j u h
    refine ⟨y, ?_, ?_⟩
    · rw [show (j + 3) / 3 = j / 3 + 1 by omega]; exact h1
    · rw [show (j + 3) % 3 = j % 3 by omega]; exact h2
theorem slices_Delete_Note.put {base g n cap : Nat} {ok : Nat → Prop} : ∀ (ys : List S81) (i : Nat) (xs : List S81) (W : World), i + ys.length ≤ n → Kd.R k81 81 W base ok (.slice (some ⟨g, 0, none⟩) n cap) xs → ∃ zs : List S81, zs.take (i + ys.length) = xs.take i ++ ys ∧ Kd.R k81 81 (W.setCells g (i * 3) (slices_Delete_Note.cellsOf ys)) base ok (.slice (some ⟨g, 0, none⟩) n cap) zs
  | [], i, xs, W, _, h => ⟨xs, by simp, h⟩
  | y :: ys, i, xs, W, hi, h => by
    rw [List.length_cons] at hi
    have hn := (Kd.R_reads' h).1
    have h0 : (0 : Int) ≤ (i : Int) := by omega
    have h1 : (i : Int) < (n : Int) := by omega
    obtain ⟨ce, hcl, hM, hcc, _⟩ := Kd.R_elem h z81 (i : Int) h0 h1
    have z := (Kd.R_seg h (i : Int) h0 h1 (seg := [.int .i64 y.f0, .int .i64 y.f1, .string y.f2]) (j := 0) hcl hcc (show 0 + 3 ≤ 3 by decide) (x' := y) (okp := fun k => ok k ∧ k ≠ g) (by rw [List.take_zero, List.drop_eq_nil_of_le (by rw [hcl]; exact Nat.le_refl 3)]; exact k81_mkM _ _ _ y) (fun _ hk => hk)).1
    obtain ⟨zs, h3, h4⟩ := slices_Delete_Note.put ys (i + 1) _ _ (by omega) z
    refine ⟨zs, ?_, ?_⟩
    · rw [List.length_cons, show i + (ys.length + 1) = i + 1 + ys.length by omega, h3]
      rw [show ((i : Int)).toNat = i from rfl, List.take_succ_eq_append_getElem (by rw [List.length_set]; omega), List.take_set_of_le (Nat.le_refl _)]
      simp
    · have e : (i + 1) * 3 = i * 3 + 1 + 1 + 1 := by omega
      rw [e] at h4
      exact h4
theorem slices_Delete_Note.cut3 (A : Option Addr) (n c : Nat) (i j m : Nat) (h1 : i ≤ j) (h2 : j ≤ m) (h3 : m ≤ c) : ∃ v, ∀ W : World, (Instr.slice 37 (.slice A n c) (some (.int .i64 (i : Int))) (some (.int .i64 (j : Int))) (some (.int .i64 (m : Int)))).run Try.prog W = .ok v W := by
  obtain ⟨i0, hi0, _, hsz0, _⟩ := info_parts info81
  have hel : (Try.prog).elem 37 = 81 := by simp [Program.elem, Try.underlying37]
  have hu : (Try.prog).underlying 37 = some (.slice ((Try.prog).elem 37)) := by rw [hel]; exact Try.underlying37
  refine ⟨sliced A i j m 3, fun W => ?_⟩
  rw [run_slice_lhm W 37 A n c hu .i64 .i64 .i64 i j m (by omega) (by omega) (by omega) (by omega), hel]
  simp [sizeOf, typeInfo, hi0, hsz0, Result.andThen]
theorem slices_Delete_Note.cut2 (g n c : Nat) (i j : Nat) (h1 : i < j) (h2 : j ≤ c) : ∀ W : World, (Instr.slice 37 (.slice (some ⟨g, 0, none⟩) n c) (some (.int .i64 (i : Int))) (some (.int .i64 (j : Int))) none).run Try.prog W = .ok (.slice (some ⟨g, i * 3, none⟩) (j - i) (c - i)) W := by
  intro W
  obtain ⟨i0, hi0, _, hsz0, _⟩ := info_parts info81
  have hel : (Try.prog).elem 37 = 81 := by simp [Program.elem, Try.underlying37]
  have hu : (Try.prog).underlying 37 = some (.slice ((Try.prog).elem 37)) := by rw [hel]; exact Try.underlying37
  have hcne : ¬ c = i := by omega
  have hadd : (⟨g, 0, none⟩ : Addr).add (i * 3) = ⟨g, i * 3, none⟩ := by unfold Addr.add; split <;> simp_all
  rw [run_slice_lh W 37 (some ⟨g, 0, none⟩) n c hu .i64 .i64 i j (by omega) (by omega) (by omega), hel]
  simp [sizeOf, typeInfo, hi0, hsz0, Result.andThen, sliced, hcne, hadd]
theorem slices_Delete_Note.cell {base g n cap : Nat} {ok : Nat → Prop} {xs : List S81} {W : World} (h : Kd.R k81 81 W base ok (.slice (some ⟨g, 0, none⟩) n cap) xs) (q : Nat) (hq : q < n * 3) : (W.cell? ⟨g, q, none⟩).isSome = true ∧ W.frozen? ⟨g, q, none⟩ = false := by
  obtain ⟨ce, hcl, _, hcc, hfr⟩ := Kd.R_elem h z81 ((q / 3 : Nat) : Int) (by omega) (by omega)
  have e : (((q / 3 : Nat) : Int)).toNat * 3 + q % 3 = q := by rw [Int.toNat_natCast]; omega
  have h1 := hfr (q % 3)
  have hlt : q % 3 < ce.length := by rw [hcl]; exact Nat.mod_lt _ (by decide)
  have h2 := hcc (q % 3) _ (List.getElem?_eq_getElem hlt)
  rw [show (k81).sz = 3 from rfl, e] at h1 h2
  exact ⟨by rw [h2]; rfl, h1⟩
theorem slices_Delete_Note.read {base g n cap : Nat} {ok : Nat → Prop} {xs : List S81} {W : World} (h : Kd.R k81 81 W base ok (.slice (some ⟨g, 0, none⟩) n cap) xs) (i j : Nat) (u : Value) (hu : (slices_Delete_Note.cellsOf (xs.drop i))[j]? = some u) : W.cell? ((⟨g, i * 3, none⟩ : Addr).add j) = some u := by
  obtain ⟨x, h1, h2⟩ := slices_Delete_Note.cells_get _ _ _ hu
  rw [List.getElem?_drop] at h1
  have hn := (Kd.R_reads' h).1
  have hlt : i + j / 3 < xs.length := (List.getElem?_eq_some_iff.1 h1).1
  obtain ⟨ce, _, hM, hcc, _⟩ := Kd.R_elem h z81 ((i + j / 3 : Nat) : Int) (by omega) (by omega)
  rw [show xs.getD (((i + j / 3 : Nat) : Int)).toNat z81 = x by rw [Int.toNat_natCast, List.getD_eq_getElem?_getD, h1]; rfl] at hM
  obtain rfl := k81_openM hM
  have h3 := hcc _ _ h2
  have e : (⟨g, i * 3, none⟩ : Addr).add j = ⟨g, (((i + j / 3 : Nat) : Int)).toNat * (k81).sz + j % 3, none⟩ := by
    rw [show (((i + j / 3 : Nat) : Int)).toNat * (k81).sz + j % 3 = i * 3 + j by rw [Int.toNat_natCast, show (k81).sz = 3 from rfl]; omega]
    unfold Addr.add; split <;> simp_all
  rw [e]
  exact h3
set_option maxHeartbeats 4000000 in
set_option maxRecDepth 100000 in
/-- slices.Delete of one element of a row of one's own. -/
theorem slices_Delete_Note.one (k : Nat) (j1 j2 : Int) (A0 : Option Addr) (c0 : Nat) (l0 : List S81) (w0 w : World) (hB : Below w0.heap.size w0 w) (hr0 : Kd.R k81 81 w w0.heap.size (fun _ => True) (.slice A0 l0.length c0) l0) (hk : k < l0.length) (hj1 : j1 = (k : Int)) (hj2 : j2 = (k : Int) + 1) :
    Calls Try.prog 107 #[.slice A0 l0.length c0, .int .i64 j1, .int .i64 j2] w fun e w' => ∃ v, e = .returned v ∧ Kd.R k81 81 w' w0.heap.size (fun _ => True) v (l0.take k ++ l0.drop (k + 1)) ∧ Below w0.heap.size w0 w' := by
  have hreg := MReg.here
  clear hreg
  subst hj1 hj2
  obtain ⟨g, capb, he, hg, _, _, _⟩ := Kd.R_form hr0 (by omega)
  obtain ⟨rfl, -, -⟩ := Value.slice.inj he
  have hcc := (Kd.R_reads' hr0).2.1
  have hr1 := Kd.R_drew hr0
  have hln := (Kd.R_reads' hr0).2.2.2.1
  obtain ⟨i0, hi0, hz0, hsz0, _⟩ := info_parts info81
  obtain ⟨v3, hcut3⟩ := slices_Delete_Note.cut3 (some ⟨g, 0, none⟩) l0.length c0 k (k + 1) l0.length (by omega) (by omega) hcc
  have hcutA := cut_to (P := Try.prog) 37 81 .i64 Try.underlying37 hi0 (some ⟨g, 0, none⟩) l0.length c0 (k : Int) (by omega) (by omega) hcc
  rw [Int.toNat_natCast] at hcutA
  have hnews : (slices_Delete_Note.cellsOf (l0.drop (k + 1))).length = (l0.length - (k + 1)) * i0.size := by rw [slices_Delete_Note.cells_length, List.length_drop, hsz0]
  obtain ⟨zs, hz1, hz2⟩ := slices_Delete_Note.put (l0.drop (k + 1)) k l0 w.drew (by rw [List.length_drop]; omega) hr1
  have hzl := (Kd.R_reads' hz2).1
  have e1 : k + (l0.drop (k + 1)).length = l0.length - 1 := by rw [List.length_drop]; omega
  rw [e1] at hz1
  have hcl := fun ty => slices_DeleteFunc_Note.clear hz2 1 (l0.length - 1) (c0 - (l0.length - 1)) (by omega) (by omega) ty
  obtain ⟨ys, hy1, hy2, hy3⟩ := slices_DeleteFunc_Note.clr 1 (l0.length - 1) zs _ (by omega) hz2
  have hfin := Kd.R_take hy3 (m := l0.length - 1) (by omega)
  rw [hy2, hz1] at hfin
  have hcutB := cut_from (P := Try.prog) 37 81 .i64 Try.underlying37 hi0 3 hsz0 (some ⟨g, 0, none⟩) l0.length c0 ((k : Int) + 1) (by omega) (by omega)
  rw [show ((k : Int) + 1).toNat = k + 1 by omega] at hcutB
  obtain ⟨a2, ha2, hrd⟩ : ∃ a2, (if c0 = k + 1 then some (⟨g, 0, none⟩ : Addr) else (some (⟨g, 0, none⟩ : Addr)).map (·.add ((k + 1) * 3))) = some a2 ∧ ∀ j u, (slices_Delete_Note.cellsOf (l0.drop (k + 1)))[j]? = some u → w.drew.cell? (a2.add j) = some u := by
    by_cases hc : c0 = k + 1
    · refine ⟨⟨g, 0, none⟩, by rw [if_pos hc], fun j u hu => ?_⟩
      rw [List.drop_eq_nil_of_le (by omega)] at hu
      simp [slices_Delete_Note.cellsOf] at hu
    · refine ⟨⟨g, (k + 1) * 3, none⟩, ?_, fun j u hu => slices_Delete_Note.read hr1 (k + 1) j u hu⟩
      rw [if_neg hc, Option.map_some]
      congr 1
      unfold Addr.add; split <;> simp_all
  rw [ha2] at hcutB
  have hld : (loadCellsFrom a2 0 ((l0.length - (k + 1)) * 3) #[]).run Try.prog w.drew = .ok (slices_Delete_Note.cellsOf (l0.drop (k + 1))).toArray w.drew := by
    have := run_loadCells_list (P := Try.prog) w.drew a2 _ hrd
    rw [hnews, hsz0] at this
    exact this
  have hst := run_storeCells_cells (P := Try.prog) g (k * 3) (slices_Delete_Note.cellsOf (l0.drop (k + 1))) 0 w.drew
    (fun j hj => (slices_Delete_Note.cell hr1 _ (by rw [hnews] at hj; rw [hsz0] at hj; omega)).1) (fun j hj => (slices_Delete_Note.cell hr1 _ (by rw [hnews] at hj; rw [hsz0] at hj; omega)).2) (slices_Delete_Note.cells_one _)
  rw [Nat.add_zero] at hst
  have hlen : k + (l0.length - (k + 1)) = l0.length - 1 := by omega
  have hle : l0.length - 1 ≤ c0 := by omega
  have hcutC := slices_Delete_Note.cut2 g (l0.length - 1) c0 (l0.length - 1) l0.length (by omega) hcc
  rw [show l0.length - (l0.length - 1) = 1 by omega] at hcutC
  have hne : ((k : Int) == (k : Int) + 1) = false := by simp; omega
  rw [show ((k + 1 : Nat) : Int) = (k : Int) + 1 by omega] at hcut3
  have hbel := Aside0.mk (slices_DeleteFunc_Note.bel hg (slices_DeleteFunc_Note.zc 1) ((l0.length - 1) * 3) _ (slices_DeleteFunc_Note.bel hg (slices_Delete_Note.cellsOf (l0.drop (k + 1))) (k * 3) _ (below_drew1 hB)))
  have HFIN := Aside0.mk hfin
  have HG := Aside0.mk hg
  clear hfin hy1 hy2 hy3 hz1 hz2 hzl e1 hnews hrd ha2 he hi0 hz0 hsz0 hg hr0 hr1 hB
  generalize slices_Delete_Note.cellsOf (l0.drop (k + 1)) = news at hld hst hcl HFIN hbel
  generalize slices_DeleteFunc_Note.zc 1 = zz at hcl HFIN hbel
  go_enter Try.func107, Try.ntmps107
  go_wp2_with fail
  go_region
  clear hld hst hcutA hcutB hcut3 hne
  go_wp2
  go_ret
  exact ⟨_, rfl, HFIN.out, hbel.out⟩
/-- What one element's taking leaves. -/
def slices_Delete_Note.f (l0 : List S81) (a1 a2 : Int) : Option (List S81) := if 0 ≤ a1 ∧ a1 < (l0.length : Int) ∧ a2 = a1 + 1 then some (l0.take a1.toNat ++ l0.drop (a1.toNat + 1)) else none
theorem slices_Delete_Note.own (A0 : Option Addr) (c0 : Nat) (l0 : List S81) (a1 a2 : Int) (r1 : List S81) (w0 w : World) (hB : Below w0.heap.size w0 w) (hr0 : Kd.R k81 81 w w0.heap.size (fun _ => True) (.slice A0 l0.length c0) l0) (h : slices_Delete_Note.f l0 a1 a2 = some r1) :
    Calls Try.prog 107 #[.slice A0 l0.length c0, .int .i64 a1, .int .i64 a2] w fun e w' => ∃ v0_ : Value, e = .returned v0_ ∧ Kd.R k81 81 w' w0.heap.size (fun _ => True) v0_ r1 ∧ Below w0.heap.size w0 w' := by
  unfold slices_Delete_Note.f at h
  split at h
  · rename_i hc
    obtain rfl := Option.some.inj h
    exact slices_Delete_Note.one a1.toNat a1 a2 A0 c0 l0 w0 w hB hr0 (by omega) (by omega) (by omega)
  · exact absurd h (by simp)

end Go.Proofs.Ytphjmmaeolbggaa.G
