/- Statements that write several cells in an order that Go leaves open: the tactics for them. No condition. -/
import Derived.Test.YtphjmmaeolbggaaMOwn
import Derived.RegionTactic
import Derived.BigRegion
namespace Go.Proofs.Ytphjmmaeolbggaa.MReg
/-- A name that a text leans on when it needs these imports. -/
theorem here : True := trivial
end Go.Proofs.Ytphjmmaeolbggaa.MReg
