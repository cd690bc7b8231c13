/- The law ResultBack, on what the printed functions compute. -/
import Derived.Test.YtgabadlneeffkaaDoorKBa
import Derived.Test.YtgabadlneeffkaaDoorKSm
namespace Go.Proofs.YtgabadlneeffkaaDoor.B
open Go.RowKit Go.Lib Go.Proofs.YtgabadlneeffkaaDoor Go.Proofs.YtgabadlneeffkaaDoorW.PrintWords Go.Proofs.YtgabadlneeffkaaDoorW.PrintLast
theorem same_self {a0 a1 : Int} {vars : List ByteArray} {rows : List (List S43)} {tr : Bool} {er : Int} (h : chk a0 a1 vars rows tr er = 0) : Ev (fun k => legationref17_Same.f k a0 a1 vars rows tr er a0 a1 vars rows tr er) true := by
  obtain ⟨p1, p2, hk⟩ := chk_zero h
  have hv : vars.length ≤ 9223372036854775807 ∧ rows.length ≤ 9223372036854775807 ∧ ∀ z ∈ rows, z.length ≤ 9223372036854775807 := by
    rcases hk with ⟨k1, k2, k3, k4, k5⟩ | ⟨k1, k2, k3, k4⟩ | ⟨k1, k2, k3, k4, k5, k6⟩
    · obtain ⟨v1, _, v3⟩ := rightR_all k4
      refine ⟨by omega, by omega, fun z hz => ?_⟩
      have := List.all_eq_true.1 v3 z hz
      unfold rowOK at this
      rw [Bool.and_eq_true, beq_iff_eq] at this
      omega
    · subst k2 k3; exact ⟨by simp, by simp, fun z hz => by cases hz⟩
    subst k2 k3; exact ⟨by simp, by simp, fun z hz => by cases hz⟩
  have h2 := same_ev a0 a1 vars hv.1 rows hv.2.1 hv.2.2 tr er a0 a1 vars rows tr er
  rwa [decide_eq_true (show sameR a0 a1 vars rows tr er a0 a1 vars rows tr er from ⟨rfl, rfl, rfl, rfl, rfl, rfl⟩)] at h2
theorem law_Back (a0 a1 : Int) (vars : List ByteArray) (rows : List (List S43)) (tr : Bool) (er : Int) (b : ByteArray) (hr : rows.length ≤ 9223372036854775807) : ∃ k, legationlaw17_ResultBack.f k a0 a1 vars rows tr er b = some true := by
  apply Ev.rounds
  unfold legationlaw17_ResultBack.f
  have j0 : Ev (fun k => legationlaw17_ResultBack.j0 k b) true := by
    refine Ev.step (fun k => by rw [legationlaw17_ResultBack.j0]) ?_
    obtain ⟨v, hv, hq⟩ := get_any b
    refine Ev.bind hv ?_
    by_cases h0 : v.2.2.2.2.2.2 = 0
    · obtain ⟨y, hy, y2, y1⟩ := hq h0
      simp only [if_pos h0]
      refine Ev.bind hy ?_
      simp only [if_pos y2, if_pos y1]
      exact Ev.bind awake_ev (Ev.now _)
    simp only [if_neg h0]
    exact Ev.bind awake_ev (Ev.now _)
  refine Ev.bind (put_ev a0 a1 vars rows hr tr er) ?_
  by_cases h : chk a0 a1 vars rows tr er = 0
  · simp only [if_pos h]
    unfold finL
    by_cases hl : (bytesL a0.toNat a1 vars rows tr er.toNat).length > 65536
    · simp only [if_pos hl, if_neg (show ¬ ((3 : Int) = 0) by decide)]
      exact j0
    simp only [if_neg hl, if_true]
    refine Ev.bind (get_ev h (by omega)) ?_
    simp only [if_true]
    refine Ev.bind (same_self h) ?_
    simp only [if_true]
    exact j0
  simp only [if_neg h]
  exact j0
end Go.Proofs.YtgabadlneeffkaaDoor.B
