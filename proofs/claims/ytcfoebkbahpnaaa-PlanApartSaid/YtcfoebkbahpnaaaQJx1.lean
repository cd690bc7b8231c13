import Derived.Test.YtcfoebkbahpnaaaQJx0
namespace Go.Proofs.Ytcfoebkbahpnaaa.K
open Go.RowKit Go.Proofs.YtcfoebkbahpnaaaW.PrintWords Go.Proofs.YtcfoebkbahpnaaaW.PrintLast Go.Proofs.YtcfoebkbahpnaaaW.PrintMore
attribute [local go_sem] max2_int min2_int max_two min_two max_three min_three max_four min_four
set_option linter.unusedVariables false
set_option maxHeartbeats 8000000
set_option maxRecDepth 100000
set_option linter.unusedSimpArgs false
theorem eqA50 (d:Nat) (w:World) (x0 y0:Int) (x1 y1:ByteArray) (x2 y2:ByteArray) (x3 y3:ByteArray):
 (Op.equalIn (d+2) 50 (.agg #[.int .i64 x0,.string x1,.string x2,.string x3]) (.agg #[.int .i64 y0,.string y1,.string y2,.string y3])).run Try.prog w= .ok (x0==y0 && (x1.toList==y1.toList && (x2.toList==y2.toList && (x3.toList==y3.toList)))) w:=by
 refine eqA_of Try.underlying50 (by kernel_rfl) ?_;refine eqf_cons (by rfl) (by go_simp;rfl) (by go_simp;rfl) (by go_simp) ?_;refine eqf_cons (by rfl) (by go_simp;rfl) (by go_simp;rfl) (by go_simp) ?_;refine eqf_cons (by rfl) (by go_simp;rfl) (by go_simp;rfl) (by go_simp) ?_;exact eqf_last (by rfl) (by go_simp;rfl) (by go_simp;rfl) (by go_simp)
theorem eqA112 (d:Nat) (w:World) (x0 y0:Int) (x1 y1:Int) (x2 y2:ByteArray) (x3 y3:ByteArray) (x4 y4:ByteArray) (x5 y5:ByteArray) (x6 y6:Int):
 (Op.equalIn (d+3) 112 (.agg #[.int .i64 x0,.int .i64 x1,.string x2,.string x3,.string x4,.string x5,.int .i64 x6]) (.agg #[.int .i64 y0,.int .i64 y1,.string y2,.string y3,.string y4,.string y5,.int .i64 y6])).run Try.prog w= .ok (x0==y0 && ((x1==y1 && (x2.toList==y2.toList && (x3.toList==y3.toList && (x4.toList==y4.toList)))) && (x5.toList==y5.toList && (x6==y6)))) w:=by
 refine eqA_of Try.underlying112 (by kernel_rfl) ?_;refine eqf_cons (by rfl) (by go_simp;rfl) (by go_simp;rfl) (by go_simp) ?_;refine eqf_cons (by rfl) (by go_simp) (by go_simp) (eqA50 (d+0) w _ _ _ _ _ _ _ _) ?_;refine eqf_cons (by rfl) (by go_simp;rfl) (by go_simp;rfl) (by go_simp) ?_;exact eqf_last (by rfl) (by go_simp;rfl) (by go_simp;rfl) (by go_simp)
end Go.Proofs.Ytcfoebkbahpnaaa.K
