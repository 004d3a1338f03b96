/- Printed for this claim: functions of the program as Lean functions, and that the calls answer so. -/
import Derived.Test.YtbfkpgmdbafmhaaDoorPFnShapesx0
import Derived.Test.YtbfkpgmdbafmhaaDoorPFnShapesxD0
import Derived.Test.YtbfkpgmdbafmhaaDoorPFnShapesxD1
namespace Go.Proofs.YtbfkpgmdbafmhaaDoor.PFnShapes
open Go.RowKit Go.Proofs.YtbfkpgmdbafmhaaDoorW.PrintWords Go.Proofs.YtbfkpgmdbafmhaaDoorW.PrintLast Go.Proofs.YtbfkpgmdbafmhaaDoorW.PrintMore
attribute [local go_sem] max2_int min2_int max_two min_two max_three min_three max_four min_four isSome_setCell   -- for this text's walks alone
set_option linter.unusedVariables false
set_option linter.unusedSimpArgs false

theorem z1_0_ {p : Prop} (h : p := by go_simp; rfl) : p := h
theorem eqA25 (d : Nat) (w : World) (x0 y0 : Int) (x1 y1 : Int) (x2 y2 : Int) (x3 y3 : Int) (x4 y4 : Int) (x5 y5 : Bool) :
 (Op.equalIn (d + 2) 25 (.agg #[.int .i64 x0, .int .i64 x1, .int .i64 x2, .int .i64 x3, .int .i64 x4, .bool x5]) (.agg #[.int .i64 y0, .int .i64 y1, .int .i64 y2, .int .i64 y3, .int .i64 y4, .bool y5])).run Tryd.prog w = .ok (x0 == y0 && (x1 == y1 && (x2 == y2 && (x3 == y3 && (x4 == y4 && (x5 == y5)))))) w := by
 refine eqA_of Tryd.underlying25 (by kernel_rfl) ?_
 refine eqf_cons (by rfl) z1_0_ z1_0_ (by go_simp) ?_
 refine eqf_cons (by rfl) z1_0_ z1_0_ (by go_simp) ?_
 refine eqf_cons (by rfl) z1_0_ z1_0_ (by go_simp) ?_
 refine eqf_cons (by rfl) z1_0_ z1_0_ (by go_simp) ?_
 refine eqf_cons (by rfl) z1_0_ z1_0_ (by go_simp) ?_
 exact eqf_last (by rfl) z1_0_ z1_0_ (by go_simp)
end Go.Proofs.YtbfkpgmdbafmhaaDoor.PFnShapes
