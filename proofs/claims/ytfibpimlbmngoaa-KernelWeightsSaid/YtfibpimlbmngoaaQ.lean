/- Each Go function of the law as a Lean function, with the proof that its call comes to just that, for every input; written by hp.py, a program of this session over the kit own print of the translation. -/
import Derived.Test.YtfibpimlbmngoaaQ0
import Derived.Test.YtfibpimlbmngoaaQ1
import Derived.Test.YtfibpimlbmngoaaQ2
import Derived.Test.YtfibpimlbmngoaaQ3
import Derived.Test.YtfibpimlbmngoaaQ4
import Derived.Test.YtfibpimlbmngoaaQ5
namespace Go.Proofs.Ytfibpimlbmngoaa.Q
open Go.RowKit Go.Proofs.YtfibpimlbmngoaaW.PrintWords Go.Proofs.YtfibpimlbmngoaaW.PrintLast Go.Proofs.YtfibpimlbmngoaaW.PrintMore
attribute [local go_sem] max2_int min2_int max_two min_two max_three min_three max_four min_four   -- for this text's walks alone
set_option linter.unusedVariables false
set_option linter.unusedSimpArgs false

end Go.Proofs.Ytfibpimlbmngoaa.Q
