/- Rows of a call's own, told by the range in which their blocks lie; what a test against nil comes to. No condition. -/
import Derived.Test.YtmllkdgdkagkkaaMRead
import Derived.Lib.SliceRun
namespace Go.Proofs.Ytmllkdgdkagkkaa.MOwn
open Go.RowKit Go.Proofs.YtmllkdgdkagkkaaW.PrintWords Go.Proofs.YtmllkdgdkagkkaaW.PrintLast Go.Proofs.YtmllkdgdkagkkaaW.PrintMore

theorem eql_nil {P : Program} (t e : TypeId) (a : Option Addr) (n c : Nat) (h : P.underlying t = some (.slice e)) (w : World) : (binOp .eql t (.slice a n c) (.slice none 0 0)).run P w = .ok (.bool a.isNone) w := Lib.run_eql_slice_nil w t e a n c 0 0 h

section
variable {α : Type} {d : Kd α} {e base lo hi : Nat} {w w1 W : World} {v : Value} {xs ys : List α} {P : Nat → Prop}
end
end Go.Proofs.Ytmllkdgdkagkkaa.MOwn
