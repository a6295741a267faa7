/- Each Go function of the law as a Lean function, with the proof that its call comes to just that, for every input; written by hp.py, a program of this session over the kit own print of the translation. -/
import Derived.Test.YtgciphmmfbgkeaaProg
import Derived.Below
import Derived.Deep.Draws
import Derived.Deep.AppendLies
import Derived.Maps.AppendAt
import Derived.OwnWalk
import Derived.Laws.BytesArg
import Derived.Laws.MakeOwn
import Derived.Laws.OwnMore
import Derived.Deep.OwnRows
import Derived.Tactics
import Derived.Lib.ConvBytes
import Derived.Laws.Slices
import Derived.WalkKit
import Derived.KernelRfl
import Derived.RowKit3
import Derived.Deep.LoopGhost
import Derived.Deep.QuietTactic
import Derived.BigQuiet
import Derived.WideLaws
import Derived.Deep.DeepCutAuto
import Derived.Deep.CutBlock
import Derived.Deep.RegionHeld3
import Derived.Laws.Rows
import Derived.Lib.AppendStr
import Derived.ArgAppend
import Derived.Laws.IdiomCopy
import Derived.OrdersHeld
import Derived.Laws.BitsLemmas
import Derived.RowKit
import Derived.Test.YtgciphmmfbgkeaaClo
import Derived.Test.YtgciphmmfbgkeaaSin0
import Derived.Test.YtgciphmmfbgkeaaVWords
import Derived.Test.YtgciphmmfbgkeaaVLast
import Derived.Test.YtgciphmmfbgkeaaVTab
import Derived.Test.YtgciphmmfbgkeaaVFour
import Derived.Test.YtgciphmmfbgkeaaVQPut
import Derived.Test.YtgciphmmfbgkeaaVApart
import Derived.Test.YtgciphmmfbgkeaaVArr
import Derived.Test.YtgciphmmfbgkeaaVZeros
import Derived.Test.YtgciphmmfbgkeaaVFoot
import Derived.Test.YtgciphmmfbgkeaaVKept
import Derived.Test.YtgciphmmfbgkeaaVShare
import Derived.Test.YtgciphmmfbgkeaaVN
import Derived.Test.YtgciphmmfbgkeaaVFootNe
import Derived.Test.YtgciphmmfbgkeaaVAt
import Derived.Test.YtgciphmmfbgkeaaVEqStruct
import Derived.Test.YtgciphmmfbgkeaaVRepsOne
import Derived.Test.YtgciphmmfbgkeaaVInv
import Derived.Test.YtgciphmmfbgkeaaVInvWords
import Derived.Test.YtgciphmmfbgkeaaVGuard
import Derived.Test.YtgciphmmfbgkeaaVNEv
import Derived.Test.YtgciphmmfbgkeaaVMore
namespace Go.Proofs.Ytgciphmmfbgkeaa.Q
open Go.RowKit Go.Proofs.YtgciphmmfbgkeaaW.PrintWords Go.Proofs.YtgciphmmfbgkeaaW.PrintLast Go.Proofs.YtgciphmmfbgkeaaW.PrintMore
attribute [local go_sem] max2_int min2_int max_two min_two max_three min_three max_four min_four   -- for this text's walks alone
set_option linter.unusedVariables false
set_option linter.unusedSimpArgs false
open Go.Proofs.Ytgciphmmfbgkeaa.Clo Go.Proofs.Ytgciphmmfbgkeaa.Sin0



def errW : Option Int → Value
  | none => .nilIface
  | some c => .iface 0 (.int .i64 c)
theorem errW_none : errW none = .nilIface := rfl
theorem errW_some (c : Int) : errW (some c) = .iface 0 (.int .i64 c) := rfl

theorem info3 : (Try.prog.info? 3).map (fun i => (i.zero, i.size, i.bytes)) = some (some (.int .i64 0), 1, 8) := by kernel_rfl
-- the values' own types

end Go.Proofs.Ytgciphmmfbgkeaa.Q
