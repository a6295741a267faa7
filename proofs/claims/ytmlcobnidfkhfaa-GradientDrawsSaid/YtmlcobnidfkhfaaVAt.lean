/- The words of the print that this claim's texts use, out of its file WAt (kept by trim.py, a program of this session); general theorems on the walk, for every program. -/
import Derived.Test.YtmlcobnidfkhfaaVFootNe
namespace Go.Proofs.YtmlcobnidfkhfaaW.PrintWords
open Go.RowKit
end Go.Proofs.YtmlcobnidfkhfaaW.PrintWords
