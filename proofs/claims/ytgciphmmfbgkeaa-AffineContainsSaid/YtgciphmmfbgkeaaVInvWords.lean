/- The words of the print that this claim's texts use, out of its file WInvWords (kept by trim.py, a program of this session); general theorems on the walk, for every program. -/
import Derived.Test.YtgciphmmfbgkeaaVInv
import Derived.Test.YtgciphmmfbgkeaaVFootNe
namespace Go.Proofs.YtgciphmmfbgkeaaW.PrintWords
open Go.RowKit
end Go.Proofs.YtgciphmmfbgkeaaW.PrintWords
