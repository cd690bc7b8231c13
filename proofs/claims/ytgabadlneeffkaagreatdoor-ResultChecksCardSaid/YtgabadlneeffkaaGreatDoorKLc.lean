/- The law ResultChecks, on what the printed functions compute. -/
import Derived.Test.YtgabadlneeffkaaGreatDoorKPg
namespace Go.Proofs.YtgabadlneeffkaaGreatDoor.C
open Go.RowKit Go.Lib Go.Proofs.YtgabadlneeffkaaGreatDoor Go.Proofs.YtgabadlneeffkaaGreatDoorW.PrintWords Go.Proofs.YtgabadlneeffkaaGreatDoorW.PrintLast
theorem law_Checks (a0 a1 : Int) (vars : List ByteArray) (rows : List (List S43)) (tr : Bool) (er : Int) (hr : rows.length ≤ 9223372036854775807) : ∃ k, legationlaw17_ResultChecks.f k a0 a1 vars rows tr er = some true := by
  apply Ev.rounds
  unfold legationlaw17_ResultChecks.f
  refine Ev.bind (chk_ev a0 a1 vars rows hr tr er) ?_
  refine Ev.bind (rchk_ev a0 a1 vars rows hr tr er) ?_
  simp only [if_true]
  exact Ev.bind awake_ev (Ev.now _)
end Go.Proofs.YtgabadlneeffkaaGreatDoor.C
