/- Written by a program of this claim's author, out of the loaded program as Lean prints it: the functions as Lean functions, and that the calls answer so. -/
/- Own words beside the print's. -/
import Derived.Test.YtfaknmihmllbbaaWWords
import Derived.Test.YtfaknmihmllbbaaWLast
import Derived.Test.YtfaknmihmllbbaaWMore
namespace Go.Proofs.YtfaknmihmllbbaaW.PrintWords
open Go.RowKit
end Go.Proofs.YtfaknmihmllbbaaW.PrintWords
