/- The pure statement of the law FnExactPlainShapes: for all arguments within their bounds its Lean function answers true. -/
import Derived.Test.YtmffndjbpealmaaDoorPFnExactPlainShapesxD0
namespace Go.Proofs.YtmffndjbpealmaaDoor.Pure
open Go.RowKit Go.Proofs.YtmffndjbpealmaaDoor.PFnExactPlainShapes Go.Proofs.YtmffndjbpealmaaDoorW.PrintWords Go.Proofs.YtmffndjbpealmaaDoorW.PrintLast
set_option linter.unusedVariables false
set_option linter.unusedSimpArgs false
theorem FnExactPlainShapes : laws_FnExactPlainShapes.Pure := ⟨60, by kernel_rfl⟩

end Go.Proofs.YtmffndjbpealmaaDoor.Pure
