/- What comes in as an argument, read as a value of the print's kinds: whole numbers, bools, strings, structs of two to four one-cell fields, slices of any of these. No condition beyond what a row's reading gives. -/
import Derived.Test.YtpdcopbnhaoilaaDoorWAll
import Derived.SizedLaws
import Derived.Deep.Slices
import Derived.Lib.SmallJoins
import Derived.Deep.Strs
namespace Go.Proofs.YtpdcopbnhaoilaaDoorW.PrintWords
open Go.ChangeShapes Go.WideShapes Go.RowKit Go.Joins Go.Deep

/-! ### texts held against each other -/
theorem less_total : ∀ a b : List UInt8, (Op.bytesLess a b || a == b) = !(Op.bytesLess b a)
  | [], [] => rfl
  | [], _ :: _ => rfl
  | _ :: _, [] => rfl
  | a :: x, b :: y => by
    have ih := less_total x y
    simp only [Op.bytesLess, List.cons_beq_cons]
    rcases Nat.lt_trichotomy a.toNat b.toNat with h | h | h
    · have h1 : (decide (a < b)) = true := decide_eq_true (UInt8.lt_iff_toNat_lt.2 h)
      have h2 : (decide (b < a)) = false := decide_eq_false (fun q => by have := UInt8.lt_iff_toNat_lt.1 q; omega)
      have h3 : (b == a) = false := beq_eq_false_iff_ne.2 (fun q => by subst q; omega)
      simp [h1, h2, h3]
    · obtain rfl : a = b := UInt8.toNat_inj.1 h
      simp [ih]
    · have h1 : (decide (a < b)) = false := decide_eq_false (fun q => by have := UInt8.lt_iff_toNat_lt.1 q; omega)
      have h2 : (decide (b < a)) = true := decide_eq_true (UInt8.lt_iff_toNat_lt.2 h)
      have h3 : (a == b) = false := beq_eq_false_iff_ne.2 (fun q => by subst q; omega)
      simp [h1, h2, h3]
theorem str_geq (t : TypeId) (a b : ByteArray) : binOp .geq t (.string a) (.string b) = pure (.bool !(Op.bytesLess a.toList b.toList)) := by simp [binOp, Op.stringOp]
theorem str_gtr (t : TypeId) (a b : ByteArray) : binOp .gtr t (.string a) (.string b) = pure (.bool (Op.bytesLess b.toList a.toList)) := by
  have : binOp .gtr t (.string a) (.string b) = pure (.bool !(Op.bytesLess a.toList b.toList || a.toList == b.toList)) := by simp [binOp, Op.stringOp]
  rw [this, less_total, Bool.not_not]
theorem str_leq (t : TypeId) (a b : ByteArray) : binOp .leq t (.string a) (.string b) = pure (.bool !(Op.bytesLess b.toList a.toList)) := by
  have : binOp .leq t (.string a) (.string b) = pure (.bool (Op.bytesLess a.toList b.toList || a.toList == b.toList)) := by simp [binOp, Op.stringOp]
  rw [this, less_total]

/-! ### what calls through function values come to -/
end Go.Proofs.YtpdcopbnhaoilaaDoorW.PrintWords
