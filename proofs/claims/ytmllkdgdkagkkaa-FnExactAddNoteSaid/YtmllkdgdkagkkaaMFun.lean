/- Calls through function values, and what searches through predicates come to; no condition. -/
import Derived.Test.YtmllkdgdkagkkaaMRead
namespace Go.Proofs.Ytmllkdgdkagkkaa.MFun
open Go.RowKit Go.Proofs.YtmllkdgdkagkkaaW.PrintWords Go.Proofs.YtmllkdgdkagkkaaW.PrintLast Go.Proofs.YtmllkdgdkagkkaaW.PrintMore

section
variable {P : Program} {ops : Array Oper} {Q : Exit → Act → World → Prop}
/-- A call through a function value that is known, in a region that draws its order. -/
theorem goesV_ {oi : Oper} {N : Option Tmp} {a : Act} {w : World} {K : Act → World → Prop} {f : FuncId} {fn : Func} {as : Array Operand} {ts : Array TypeId} {x : Operand} (hf : P.funcs[f]? = some fn) (hname : (fn.name == "runtime.NumGoroutine") = false) (hb : fn.body.isSome = true) (args : Array Value)
    (hw : Region.wanted oi (yielded ops a.tmps) = true) (hN : oi.dst = N) (hop : oi.op = .call { callee := .value x, args := as, argTypes := ts }) (hx : a.eval x = .func (.func f) #[] #[]) (hargs : as.map a.eval = args)
    (h : Calls P f args w fun e w' => ∃ v, e = .returned v ∧ K (a.put N v) w') : if Region.wanted oi (yielded ops a.tmps) = true then Oper.wp P oi a w K Q else K (a.put N undef) w := by
  refine call_ f args hw hN ?_ h
  have he := enters_ hf hname hb args w
  unfold execOp
  simp [hop, resolve, Deferred.ofValue, invoke, hx, hargs, he]
/-- The same in a plain region. -/
theorem goesLV_ {rest : List Oper} {oi : Oper} {a : Act} {w : World} (N : Option Tmp) (hd : oi.dst = N) (hg : oi.guard = none) {f : FuncId} {fn : Func} {as : Array Operand} {ts : Array TypeId} {x : Operand} (hf : P.funcs[f]? = some fn) (hname : (fn.name == "runtime.NumGoroutine") = false) (hb : fn.body.isSome = true) (args : Array Value)
    (hop : oi.op = .call { callee := .value x, args := as, argTypes := ts }) (hx : a.eval x = .func (.func f) #[] #[]) (hargs : as.map a.eval = args)
    (h : Calls P f args w fun e w' => ∃ v, e = .returned v ∧ wpList P ops Q rest (a.put N v) w') : wpList P ops Q (oi :: rest) a w := by
  refine wpList_plain hg fun K hK => ?_
  have he := enters_ hf hname hb args w
  have hrun : (execOp a.eval oi).run P w = .ok (.enter f args) w := by
    unfold execOp
    simp [hop, resolve, Deferred.ofValue, invoke, hx, hargs, he]
  unfold Oper.wp
  rw [hrun, Oper.upon_enter]
  refine h.mono fun e w'' hh => ?_
  obtain ⟨v, rfl, hk⟩ := hh
  subst hd
  exact hK _ _ hk
end

theorem idxOf_any {α : Type} (p : α → Bool) (l : List α) : decide (0 ≤ idxOf p l) = l.any p := by
  unfold idxOf
  cases h : l.findIdx? p with
  | none =>
    have := List.findIdx?_eq_none_iff.1 h
    have e : l.any p = false := by
      rw [List.any_eq_false]
      exact fun x hx => by rw [this x hx]; decide
    rw [e]
    rfl
  | some i =>
    obtain ⟨hi, hp, _⟩ := List.findIdx?_eq_some_iff_getElem.1 h
    have e : l.any p = true := List.any_eq_true.2 ⟨l[i], List.getElem_mem hi, hp⟩
    rw [e]
    exact decide_eq_true (by show (0 : Int) ≤ (i : Int); omega)
/-- The places at which p holds, from i on. -/
def placesFrom {α : Type} (p : α → Bool) : List α → Nat → List Int
  | [], _ => []
  | x :: l, i => if p x then (i : Int) :: placesFrom p l (i + 1) else placesFrom p l (i + 1)
theorem placesFrom_append {α : Type} (p : α → Bool) : ∀ (l m : List α) (i : Nat), placesFrom p (l ++ m) i = placesFrom p l i ++ placesFrom p m (i + l.length)
  | [], m, i => by simp [placesFrom]
  | x :: l, m, i => by
    simp only [List.cons_append, placesFrom, placesFrom_append p l m (i + 1), List.length_cons]
    rw [show i + 1 + l.length = i + (l.length + 1) by omega]
    split <;> rfl
def places {α : Type} (p : α → Bool) (l : List α) : List Int := placesFrom p l 0
theorem places_take {α : Type} (p : α → Bool) (l : List α) (z : α) (i : Nat) (h : i < l.length) : places p (l.take (i + 1)) = if p (l.getD i z) then places p (l.take i) ++ [(i : Int)] else places p (l.take i) := by
  have e : l.getD i z = l[i] := by rw [List.getD_eq_getElem?_getD, List.getElem?_eq_getElem h]; rfl
  unfold places
  rw [List.take_succ_eq_append_getElem h, placesFrom_append, e]
  have hl : (l.take i).length = i := by simp; omega
  rw [hl]
  simp only [placesFrom, Nat.zero_add]
  split <;> simp
theorem places_length {α : Type} (p : α → Bool) : ∀ (l : List α) (i : Nat), (placesFrom p l i).length ≤ l.length
  | [], _ => Nat.le_refl _
  | x :: l, i => by
    have := places_length p l (i + 1)
    simp only [placesFrom, List.length_cons]
    split
    · simp; omega
    · omega
end Go.Proofs.Ytmllkdgdkagkkaa.MFun
