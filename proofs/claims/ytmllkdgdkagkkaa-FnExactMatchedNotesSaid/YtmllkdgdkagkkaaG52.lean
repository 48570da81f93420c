-- Written by this session's own program over the kit's print (wip/tools/myprint.py); Lean checks it.
import Derived.Test.YtmllkdgdkagkkaaG0
import Derived.Test.YtmllkdgdkagkkaaG28
import Derived.Test.YtmllkdgdkagkkaaMOwn
namespace Go.Proofs.Ytmllkdgdkagkkaa.G
open Go.RowKit Go.Proofs.YtmllkdgdkagkkaaW.PrintWords Go.Proofs.YtmllkdgdkagkkaaW.PrintLast Go.Proofs.YtmllkdgdkagkkaaW.PrintMore
attribute [local go_sem] max2_int min2_int max_two min_two max_three min_three max_four min_four str_geq str_gtr str_leq   -- for this text's walks alone
set_option linter.unusedVariables false
set_option linter.unusedSimpArgs false

/-! ### laws_markIntSS: function 24 -/
/-- The marks on rows of rows: row for row. -/
def laws_markIntSS.f (k : Nat) : List (List Int) → Int → Option (Int × List (List Int))
  | [], a => some (a, [])
  | r :: rs, a => (laws_markIntS.f k r a).bind fun t => (laws_markIntSS.f k rs t.1).bind fun u => some (u.1, t.2 :: u.2)
set_option maxHeartbeats 8000000 in
set_option maxRecDepth 100000 in
/-- MOwn: the rows inside lie apart from each other. -/
theorem laws_markIntSS.calls (k : Nat) (P0_ : Nat → Prop) (u : Value) (l0 : List (List Int)) (a1 : Int) (r1 : Int) (r2 : List (List Int)) (w0 w : World) (hB : Below w0.heap.size w0 w) (ho0 : Kd.S (Kd.slice 3 (Kd.int .i64)) 91 w w0.heap.size P0_ u l0) (h : laws_markIntSS.f k l0 a1 = some (r1, r2)) :
    Calls Try.prog 24 #[u, .int .i64 a1] w fun e w' => e = .returned (.int .i64 r1) ∧ Kd.S (Kd.slice 3 (Kd.int .i64)) 91 w' w0.heap.size P0_ u r2 ∧ Below w0.heap.size w0 w' ∧ Kept w w' P0_ := by
  obtain ⟨A, c, rfl⟩ := Kd.S_slice ho0
  have HL := Aside0.mk (Kd.S_reads' ho0).2.2.2.1
  have HO := Aside0.mk ho0
  have HBB := Aside0.mk hB
  have HF := Aside0.mk h
  clear ho0 hB h
  go_enter Try.func24, Try.ntmps24
  go_wp2
  go_loopg [1, 5] l0.length (fun gg s1 s5 wr => ∃ (x kk : Int) (cur rs : List (List Int)), s1 = .int .i64 kk ∧ s5 = .int .i64 x ∧ Aside0 (0 ≤ x ∧ x ≤ (l0.length : Int) ∧ (l0.length : Int) - x ≤ (gg : Int)) ∧ Aside0 (laws_markIntSS.f k (l0.drop x.toNat) kk = some (r1, rs)) ∧ Aside0 (cur.length = l0.length ∧ cur.drop x.toNat = l0.drop x.toNat ∧ cur.take x.toNat ++ rs = r2) ∧ Aside0 (Kd.S (Kd.slice 3 (Kd.int .i64)) 91 wr w0.heap.size P0_ (.slice A l0.length c) cur) ∧ Aside0 (Below w0.heap.size w0 wr) ∧ Aside0 (Kept w wr P0_))
  case atStart => exact ⟨0, a1, l0, r2, rfl, rfl, ⟨by omega⟩, ⟨HF.out⟩, ⟨rfl, rfl, rfl⟩, ⟨HO.out⟩, ⟨HBB.out⟩, ⟨Kept.refl _ _⟩⟩
  case round =>
    obtain ⟨x, kk, cur, rs, rfl, rfl, HX, HG, HC, HS, HB, HK⟩ := hrel
    by_cases hlt : x < (l0.length : Int)
    · have p1 : 0 ≤ x := HX.out.1
      have q1 := hlt
      have hw : wrap64 (x + 1) = x + 1 := by have := HL.out; unfold wrap64; omega
      have HW := Aside0.mk hw
      clear hw
      obtain ⟨row, hrow⟩ : ∃ y, l0.drop x.toNat = y :: l0.drop (x.toNat + 1) := ⟨_, List.drop_eq_getElem_cons (show x.toNat < l0.length by omega)⟩
      have hG := HG.out
      rw [hrow, laws_markIntSS.f] at hG
      obtain ⟨t, ht, hG⟩ := Option.bind_eq_some_iff.mp hG
      obtain ⟨q, hq, hG⟩ := Option.bind_eq_some_iff.mp hG
      obtain ⟨t1, t2⟩ := t
      obtain ⟨q1', q2⟩ := q
      simp only [Option.some.injEq, Prod.mk.injEq] at hG
      obtain ⟨rfl, rfl⟩ := hG
      have hlen := HC.out.1
      have hce : cur.getD x.toNat [] = row := by
        have h1 := HC.out.2.1
        rw [hrow] at h1
        have h2 := congrArg (fun l => l.getD 0 []) h1
        simpa [List.getD_eq_getElem?_getD, List.getElem?_drop] using h2
      obtain ⟨g, cap, he, _, _⟩ := Kd.S_form HS.out (by omega)
      rw [hlen] at he
      obtain ⟨rfl, -, -⟩ := Value.slice.inj he
      clear he
      obtain ⟨oki, ce, hcl, hM, hcc, hoki, hH⟩ := Kd.S_lend HS.out [] x p1 q1
      rw [hce] at hM
      obtain ⟨v, rfl, hR⟩ := hM
      obtain ⟨Ai, ci, rfl⟩ := Kd.R_slice hR
      have hx1 := hcc 0 _ rfl
      simp only [show ((Kd.slice 3 (Kd.int .i64))).sz = 1 from rfl, Nat.mul_one, Nat.add_zero] at hx1
      have HH := Aside0.mk hH
      have HR := Aside0.mk hR
      have HOK := Aside0.mk hoki
      have HT := Aside0.mk ht
      have HQ := Aside0.mk hq
      have HCE := Aside0.mk hce
      clear hcl hcc hH hR hoki ht hq hce hrow hlen
      have HLT := Aside0.mk hlt
      have b1 : decide (x < (l0.length : Int)) = true := decide_eq_true hlt
      clear hlt
      replace p1 := eq_true p1
      replace q1 := eq_true q1
      go_wp2_with fail
      refine MOwn.named ?_
      intro wa hW
      have HB1 := Aside0.mk (show Below w0.heap.size w0 wa from by rw [hW]; repeat (first | (with_reducible first | exact HB.out | apply below_alloc | apply pw_below_drewN | apply below_drew1) | exact HB.out))
      have HR1 := Aside0.mk (Kd.R_step (w1 := wa) HR.out (fun k _ _ => by subst hW; rfl))
      have HH1 := Aside0.mk (Kd.H_step (w1 := wa) HH.out (fun k _ _ _ => by subst hW; rfl))
      have HK1 := Aside0.mk (show Kept w wa P0_ from by rw [hW]; exact HK.out)
      clear HB HR HH HK hW
      refine (laws_markIntS.calls k oki _ row kk t1 t2 w0 wa HB1.out HR1.out HT.out).mono ?_
      rintro e w2 ⟨rfl, hy, hb, hkp⟩
      have HY := Aside0.mk (Kd.R_reok rfl hy (fun k he => HR1.out.1 k he))
      have HS2 := Aside0.mk (Kd.H_back (Kd.H_kept HH1.out hkp (fun k _ h2 h3 => h2 h3)) (x' := t2) (okp := oki) ⟨_, rfl, HY.out⟩ (fun _ h => h))
      have HK2 := Aside0.mk (HK1.out.then_ hkp (fun k hk => .inl (HOK.out k hk).1))
      have HB2 := Aside0.mk hb
      clear hy hb hkp
      go_wp2
      go_roundg (l0.length - (x.toNat + 1))
      case measure => have := HX.out; have := HLT.out; omega
      case rel =>
        have hx := HX.out
        have hl := HLT.out
        have hn : (x + 1).toNat = x.toNat + 1 := by omega
        refine ⟨x + 1, t1, cur.set x.toNat t2, q2, rfl, by first | rfl | (rw [HW.out]) | (simp [HW.out]), ⟨by omega⟩, ⟨by rw [hn]; exact HQ.out⟩, ⟨by rw [List.length_set]; exact HC.out.1, ?_, ?_⟩, ⟨HS2.out⟩, ⟨HB2.out⟩, ⟨HK2.out⟩⟩
        · rw [hn, List.drop_set_of_lt (by omega)]
          have h1 := congrArg (List.drop 1) HC.out.2.1
          simpa [List.drop_drop] using h1
        · rw [← HC.out.2.2, hn, List.take_succ_eq_append_getElem (by rw [List.length_set, HC.out.1]; omega), List.take_set_of_le (Nat.le_refl _)]
          simp
    · have b1 : decide (x < (l0.length : Int)) = false := decide_eq_false hlt
      have e : x.toNat = l0.length := by have := HX.out; omega
      have hG := HG.out
      rw [e, List.drop_length, laws_markIntSS.f] at hG
      simp only [Option.some.injEq, Prod.mk.injEq] at hG
      obtain ⟨rfl, rfl⟩ := hG
      have h3 := HC.out.2.2
      rw [e, List.append_nil, List.take_of_length_le (by rw [HC.out.1]; omega)] at h3
      subst h3
      clear hlt e
      go_wp2
      go_ret
      exact ⟨rfl, HS.out, HB.out, HK.out⟩

end Go.Proofs.Ytmllkdgdkagkkaa.G
