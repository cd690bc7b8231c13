import Derived.Test.YtgabadlneeffkaaGreatDoorLJx0
namespace Go.Proofs.YtgabadlneeffkaaGreatDoor.G
open Go.RowKit Go.Proofs.YtgabadlneeffkaaGreatDoorW.PrintWords Go.Proofs.YtgabadlneeffkaaGreatDoorW.PrintLast Go.Proofs.YtgabadlneeffkaaGreatDoorW.PrintMore
attribute [local go_sem] max2_int min2_int max_two min_two max_three min_three max_four min_four
set_option linter.unusedVariables false
set_option maxHeartbeats 8000000
set_option maxRecDepth 100000
set_option linter.unusedSimpArgs false
theorem eqA43 (d:Nat) (w:World) (x0 y0:Int) (x1 y1:ByteArray) (x2 y2:ByteArray) (x3 y3:ByteArray):
 (Op.equalIn (d+2) 43 (.agg #[.int .i64 x0,.string x1,.string x2,.string x3]) (.agg #[.int .i64 y0,.string y1,.string y2,.string y3])).run Tryz.prog w= .ok (x0==y0 && (x1.toList==y1.toList && (x2.toList==y2.toList && (x3.toList==y3.toList)))) w:=by
 refine eqA_of Tryz.underlying43 (by kernel_rfl) ?_;refine eqf_cons (by rfl) (by go_simp;rfl) (by go_simp;rfl) (by go_simp) ?_;refine eqf_cons (by rfl) (by go_simp;rfl) (by go_simp;rfl) (by go_simp) ?_;refine eqf_cons (by rfl) (by go_simp;rfl) (by go_simp;rfl) (by go_simp) ?_;exact eqf_last (by rfl) (by go_simp;rfl) (by go_simp;rfl) (by go_simp)
end Go.Proofs.YtgabadlneeffkaaGreatDoor.G
