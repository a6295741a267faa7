/- Each Go function of the law as a Lean function, with the proof that its call comes to just that, for every input; written by hp.py, a program of this session over the kit own print of the translation. -/
import Derived.Test.YtfibpimlbmngoaaProg
import Derived.Below
import Derived.Deep.Draws
import Derived.Deep.AppendLies
import Derived.Maps.AppendAt
import Derived.OwnWalk
import Derived.Laws.BytesArg
import Derived.Laws.MakeOwn
import Derived.Laws.OwnMore
import Derived.Deep.OwnRows
import Derived.Tactics
import Derived.Lib.ConvBytes
import Derived.Laws.Slices
import Derived.WalkKit
import Derived.KernelRfl
import Derived.RowKit3
import Derived.Deep.LoopGhost
import Derived.Deep.QuietTactic
import Derived.BigQuiet
import Derived.WideLaws
import Derived.Deep.DeepCutAuto
import Derived.Deep.CutBlock
import Derived.Deep.RegionHeld3
import Derived.Laws.Rows
import Derived.Lib.AppendStr
import Derived.ArgAppend
import Derived.Laws.IdiomCopy
import Derived.OrdersHeld
import Derived.Laws.BitsLemmas
import Derived.RowKit
import Derived.Test.YtfibpimlbmngoaaWWords
import Derived.Test.YtfibpimlbmngoaaWLast
import Derived.Test.YtfibpimlbmngoaaWTab
import Derived.Test.YtfibpimlbmngoaaWFour
import Derived.Test.YtfibpimlbmngoaaWQPut
import Derived.Test.YtfibpimlbmngoaaWApart
import Derived.Test.YtfibpimlbmngoaaWArr
import Derived.Test.YtfibpimlbmngoaaWZeros
import Derived.Test.YtfibpimlbmngoaaWFoot
import Derived.Test.YtfibpimlbmngoaaWKept
import Derived.Test.YtfibpimlbmngoaaWShare
import Derived.Test.YtfibpimlbmngoaaWN
import Derived.Test.YtfibpimlbmngoaaWFootNe
import Derived.Test.YtfibpimlbmngoaaWAt
import Derived.Test.YtfibpimlbmngoaaWEqStruct
import Derived.Test.YtfibpimlbmngoaaWRepsOne
import Derived.Test.YtfibpimlbmngoaaWInv
import Derived.Test.YtfibpimlbmngoaaWInvWords
import Derived.Test.YtfibpimlbmngoaaWGuard
import Derived.Test.YtfibpimlbmngoaaWNEv
import Derived.Test.YtfibpimlbmngoaaWMore
namespace Go.Proofs.Ytfibpimlbmngoaa.Q
open Go.RowKit Go.Proofs.YtfibpimlbmngoaaW.PrintWords Go.Proofs.YtfibpimlbmngoaaW.PrintLast Go.Proofs.YtfibpimlbmngoaaW.PrintMore
attribute [local go_sem] max2_int min2_int max_two min_two max_three min_three max_four min_four   -- for this text's walks alone
set_option linter.unusedVariables false
set_option linter.unusedSimpArgs false



def errW : Option Int → Value
  | none => .nilIface
  | some c => .iface 0 (.int .i64 c)
theorem errW_none : errW none = .nilIface := rfl
theorem errW_some (c : Int) : errW (some c) = .iface 0 (.int .i64 c) := rfl

theorem info3 : (Try.prog.info? 3).map (fun i => (i.zero, i.size, i.bytes)) = some (some (.int .i64 0), 1, 8) := by kernel_rfl
-- the values' own types

end Go.Proofs.Ytfibpimlbmngoaa.Q
