-- Written by this session's own program over the kit's print (wip/tools/myprint.py); Lean checks it.
import Derived.Test.YtmllkdgdkagkkaaG0
namespace Go.Proofs.Ytmllkdgdkagkkaa.G
open Go.RowKit Go.Proofs.YtmllkdgdkagkkaaW.PrintWords Go.Proofs.YtmllkdgdkagkkaaW.PrintLast Go.Proofs.YtmllkdgdkagkkaaW.PrintMore
attribute [local go_sem] max2_int min2_int max_two min_two max_three min_three max_four min_four str_geq str_gtr str_leq   -- for this text's walks alone
set_option linter.unusedVariables false
set_option linter.unusedSimpArgs false
/-! ### spec_l1Most: function 124 -/
end Go.Proofs.Ytmllkdgdkagkkaa.G
