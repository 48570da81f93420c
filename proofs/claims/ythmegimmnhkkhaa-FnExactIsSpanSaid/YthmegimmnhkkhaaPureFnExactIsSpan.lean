/- IsSpan of the program returns what that of the reference returns, for every span; no condition. -/
import Derived.Test.YthmegimmnhkkhaaG1
import Derived.Test.YthmegimmnhkkhaaMSpan
namespace Go.Proofs.Ythmegimmnhkkhaa.Pure
open Go.RowKit Go.Proofs.Ythmegimmnhkkhaa.G Go.Proofs.YthmegimmnhkkhaaW.PrintWords Go.Proofs.YthmegimmnhkkhaaW.PrintLast Go.Proofs.Ythmegimmnhkkhaa.MPure Go.Proofs.Ythmegimmnhkkhaa.MSpan

theorem FnExactIsSpan : laws_FnExactIsSpan.Pure := by
  intro a b ha hb
  have h1 := IsSpan_s a b
  have h2 := IsSpan_i a b
  simp [laws_FnExactIsSpan.f, laws_toSpan.f, spec_IsSpan.f, h1, h2]
end Go.Proofs.Ythmegimmnhkkhaa.Pure
