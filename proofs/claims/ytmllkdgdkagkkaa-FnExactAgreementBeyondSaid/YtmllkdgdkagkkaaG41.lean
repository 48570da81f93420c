-- Written by this session's own program over the kit's print (wip/tools/myprint.py); Lean checks it.
import Derived.Test.YtmllkdgdkagkkaaG0
import Derived.Test.YtmllkdgdkagkkaaG2
import Derived.Test.YtmllkdgdkagkkaaG7
import Derived.Test.YtmllkdgdkagkkaaG42
import Derived.Test.YtmllkdgdkagkkaaMBase
namespace Go.Proofs.Ytmllkdgdkagkkaa.G
open Go.RowKit Go.Proofs.YtmllkdgdkagkkaaW.PrintWords Go.Proofs.YtmllkdgdkagkkaaW.PrintLast Go.Proofs.YtmllkdgdkagkkaaW.PrintMore
attribute [local go_sem] max2_int min2_int max_two min_two max_three min_three max_four min_four str_geq str_gtr str_leq   -- for this text's walks alone
set_option linter.unusedVariables false
set_option linter.unusedSimpArgs false
/-! ### spec_tiSpan: function 87 -/
/-! ### spec_l1Least: function 125 -/
/-! ### spec_tiCut: function 88 -/
section
attribute [local go_sem] MAlive.alive_set MAlive.alive_drewN MAlive.alive_drew MAlive.cell_set_alive
end
/-! ### spec_GapsIn: function 34 -/
/-! ### impl_cut: function 90 -/
section
attribute [local go_sem] MAlive.alive_set MAlive.alive_drewN MAlive.alive_drew MAlive.cell_set_alive
end
end Go.Proofs.Ytmllkdgdkagkkaa.G
