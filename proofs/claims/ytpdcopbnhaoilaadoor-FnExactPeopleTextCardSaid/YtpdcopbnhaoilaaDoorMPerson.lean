/- What the exact laws do with persons: sizes, copies, comparison. No condition. -/
import Derived.Test.YtpdcopbnhaoilaaDoorG0
import Derived.Test.YtpdcopbnhaoilaaDoorG7
import Derived.Test.YtpdcopbnhaoilaaDoorG8
import Derived.Test.YtpdcopbnhaoilaaDoorMPersonB
namespace Go.Proofs.YtpdcopbnhaoilaaDoor.MPerson
open Go.RowKit Go.Proofs.YtpdcopbnhaoilaaDoor.G Go.Proofs.YtpdcopbnhaoilaaDoorW.PrintWords Go.Proofs.YtpdcopbnhaoilaaDoorW.PrintLast Go.Proofs.YtpdcopbnhaoilaaDoor.MPure Go.Proofs.YtpdcopbnhaoilaaDoor.MWord

abbrev PL := S96
/-! ### what the exact laws do with persons: sizes, copies, comparison -/
def convP (x : PL) : PI := ⟨x.f0, x.f1, x.f2, x.f3⟩
def GivenP (l : List PL) : Prop := (∀ a_, a_ ∈ l → gT96 a_) ∧ l.length * 40 ≤ 140737488351232
theorem GivenP.sized {l : List PL} (h : GivenP l) : SizedP (l.map convP) := by
  obtain ⟨h1, h2⟩ := h
  refine ⟨by rw [List.length_map]; omega, fun x hx => ?_⟩
  obtain ⟨y, hy, rfl⟩ := List.mem_map.1 hx
  exact (h1 y hy).1
theorem toPersonS_ (l : List PL) (hl : l.length * 40 ≤ 140737488351232) : Ev (fun k => laws_toPersonS.f k l) (l.map convP) := by
  have key : ∀ d i : Nat, i + d = l.length → Ev (fun k => laws_toPersonS.l0 k l ((l.map convP).take i ++ (List.replicate l.length z26).drop i) (i : Int)) (l.map convP) := by
    intro d
    induction d with
    | zero =>
      intro i hi
      exact Ev.step (fun _ => laws_toPersonS.l0.eq_2 ..) (Ev.neg (by omega) (Ev.some (fill_all (by simp) (by simp; omega))))
    | succ d ih =>
      intro i hi
      refine Ev.step (fun _ => laws_toPersonS.l0.eq_2 ..) (Ev.pos (by omega) (Ev.pos (by omega) (Ev.have rfl (Ev.pos ?_ ?_))))
      · rw [fill_length (by simp), List.length_map]; omega
      · rw [wrap_succ (by omega)]
        have e : ((l.map convP).take i ++ (List.replicate l.length z26).drop i).set i ((l.map convP)[i]'(by simp; omega)) = (l.map convP).take (i + 1) ++ (List.replicate l.length z26).drop (i + 1) := set_fill (by simp) (by simp; omega)
        have e2 : (l.map convP)[i]'(by simp; omega) = (⟨(rd_T96 l (i : Int)).f0, (rd_T96 l (i : Int)).f1, (rd_T96 l (i : Int)).f2, (rd_T96 l (i : Int)).f3⟩ : PI) := by
          have : rd_T96 l (i : Int) = l[i]'(by omega) := by
            show l.getD i z96 = _
            rw [List.getD_eq_getElem?_getD, List.getElem?_eq_getElem (by omega)]
            rfl
          rw [this, List.getElem_map]
          rfl
        rw [e2] at e
        have := ih (i + 1) (by omega)
        rw [← e] at this
        exact this
  unfold laws_toPersonS.f
  refine Ev.pos (by omega) (Ev.pos (by omega) ?_)
  have := key l.length 0 (by omega)
  exact this
theorem eqPerson_ (a : PI) : laws_eqPerson.f a.f0 a.f1 a.f2 a.f3 a.f0 a.f1 a.f2 a.f3 = some true := by
  unfold laws_eqPerson.f
  rw [if_pos rfl, if_pos rfl, if_pos rfl, if_pos rfl]
theorem eqPersonS_ (l : List PI) (hl : l.length ≤ 140737488351232) : Ev (fun k => laws_eqPersonS.f k l l) true := by
  unfold laws_eqPersonS.f
  refine Ev.pos rfl ?_
  have h := loop_all0 (L := fun k i => laws_eqPersonS.l0 k l l i) l.length (fun _ => true) true ?_ ?_ ?_
  · exact Ev.eq h (by simp)
  · exact Ev.step (fun _ => laws_eqPersonS.l0.eq_2 ..) (Ev.neg (by omega) (Ev.some rfl))
  · intro i hi _ r hr
    refine Ev.step (fun _ => laws_eqPersonS.l0.eq_2 ..) (Ev.pos (by omega) (Ev.pos (by omega) (Ev.pos (by omega) (Ev.have (eqPerson_ _) (Ev.pos rfl ?_)))))
    rw [wrap_succ (by omega)]
    exact hr
  · intro i _ h
    cases h
theorem szPerson_ (g : ByteArray) (a b c : Int) (hg : g.size ≤ 140737488351232) (n : Int) (h0 : 0 ≤ n) (h1 : n ≤ 1048576) : laws_szPerson.f g a b c n = some (if n - (g.size : Int) < 0 then -1 else n - (g.size : Int)) := by
  unfold laws_szPerson.f
  rw [wrap_in (by omega) (by omega)]
  split <;> rfl
theorem szPersonS_ (l : List PL) (hl : GivenP l) (n : Int) (h0 : 0 ≤ n) (h1 : n ≤ 1048576) : ∃ z, Ev (fun k => laws_szPersonS.f k l n) z ∧ -1 ≤ z ∧ z ≤ n := by
  obtain ⟨hg, hn⟩ := hl
  have key : ∀ d i : Nat, i + d = l.length → ∀ z : Int, 0 ≤ z → z ≤ 1048576 → ∃ r, Ev (fun k => laws_szPersonS.l0 k l z (i : Int)) r ∧ -1 ≤ r ∧ r ≤ z := by
    intro d
    induction d with
    | zero =>
      intro i hi z h0 h1
      exact ⟨z, Ev.step (fun _ => laws_szPersonS.l0.eq_2 ..) (Ev.neg (by omega) (Ev.some rfl)), by omega, by omega⟩
    | succ d ih =>
      intro i hi z h0 h1
      have hm : rd_T96 l (i : Int) ∈ l := by
        show l.getD i z96 ∈ l
        rw [List.getD_eq_getElem?_getD, List.getElem?_eq_getElem (by omega)]
        exact List.getElem_mem _
      have hz := szPerson_ (rd_T96 l (i : Int)).f0 (rd_T96 l (i : Int)).f1 (rd_T96 l (i : Int)).f2 (rd_T96 l (i : Int)).f3 (hg _ hm).1 z h0 h1
      by_cases hneg : z - ((rd_T96 l (i : Int)).f0.size : Int) < 0
      · rw [if_pos hneg] at hz
        exact ⟨-1, Ev.step (fun _ => laws_szPersonS.l0.eq_2 ..) (Ev.pos (by omega) (Ev.pos (by omega) (Ev.have hz (Ev.pos (by decide) (Ev.some rfl))))), by omega, by omega⟩
      · rw [if_neg hneg] at hz
        obtain ⟨r, hr, h2, h3⟩ := ih (i + 1) (by omega) _ (Int.not_lt.1 hneg) (by omega)
        refine ⟨r, Ev.step (fun _ => laws_szPersonS.l0.eq_2 ..) (Ev.pos (by omega) (Ev.pos (by omega) (Ev.have hz (Ev.neg hneg ?_)))), h2, by omega⟩
        rw [wrap_succ (by omega)]
        exact hr
  unfold laws_szPersonS.f
  rw [wrap_in (by omega) (by omega)]
  by_cases hneg : n - (l.length : Int) < 0
  · exact ⟨-1, Ev.pos hneg (Ev.some rfl), by omega, by omega⟩
  · obtain ⟨r, hr, h2, h3⟩ := key l.length 0 (by omega) _ (Int.not_lt.1 hneg) (by omega)
    exact ⟨r, Ev.neg hneg hr, h2, by omega⟩
end Go.Proofs.YtpdcopbnhaoilaaDoor.MPerson
