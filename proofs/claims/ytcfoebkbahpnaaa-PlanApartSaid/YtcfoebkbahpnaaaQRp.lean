/- PlanApart: whatever the code and the names: true; what came in reads as it did. No condition. -/
import Derived.Test.YtcfoebkbahpnaaaQRa
import Derived.Test.YtcfoebkbahpnaaaQPf
import Derived.Test.YtcfoebkbahpnaaaQJx
namespace Go.Proofs.Ytcfoebkbahpnaaa.planApart
open Go.ChangeShapes Go.WideShapes Go.ChangeAt Go.RowKit
open Go.Proofs.Ytcfoebkbahpnaaa.K (S50 S53 S42 S112 S45 opB law_Apart)
set_option linter.unusedVariables false
theorem own : ownKnob Try.prog.godebug = none := by kernel_rfl
theorem opB_of {o : S45} (h : opG o) : opB o := by
  obtain ⟨⟨a, b⟩, ⟨c, d⟩, ⟨e, f⟩, ⟨g, i⟩, j⟩ := h
  have hr : reachBytes = 140737488351232 := rfl
  have hm : maxLen = 9223372036854775807 := rfl
  unfold opB
  refine ⟨by omega, by omega, ?_, fun t ht => ?_, fun s hs => ?_⟩
  · have : o.f4.size ≤ reachBytes := j
    omega
  · obtain ⟨⟨p, _⟩, ⟨q, _⟩, ⟨r, _⟩⟩ := b t ht
    have p' : t.f0.f1.size ≤ reachBytes := p
    have q' : t.f1.f1.size ≤ reachBytes := q
    have r' : t.f2.f1.size ≤ reachBytes := r
    exact ⟨by omega, by omega, by omega⟩
  have : s.size ≤ reachBytes := d s hs
  omega
set_option maxRecDepth 100000 in
theorem lifted (os : Os) (started : os.Started) (H : Type) (enc : TypeId × Value → H) :
    ReturnsInHanded {} Try.checked os 4 .any (Rows.planApartSpec.pre6 enc Try.prog Try.f4 Rows.planApartRow.domain false) (Rows.planApartSpec.post enc Try.prog Try.f4 false true false false) := by
  refine returnsInHanded_of_change_sized (C := Try.checked) own started (by kernel_rfl) Try.func4
    (ChangeSpec.witness6 (enc := enc) (C := Try.checked) false ⟨#[], #[.slice none 0 0, .slice none 0 0], []⟩ 8 (by kernel_rfl) (by kernel_rfl) (by kernel_rfl) (by kernel_rfl)) ?_
  intro W base args ds gs before hval0 hW hcnd hsz0 _
  have hsz : (DataW.weightsEach Try.prog (Try.f4.params.toList ++ Rows.planApartSpec.plain.varTypes Try.prog) (ds ++ gs)).all (· ≤ reachBytes) = true := hsz0
  have hval : ∀ (j : Nat) t v, Try.f4.params[j]? = some t → args[j]? = some v → Value.okWide Try.prog W .any base t v := hval0
  have hW' := hW
  obtain ⟨p, q, hA0, hV, rfl, hfz, hnd⟩ := hW
  have hA : DataW.TrodAll enc Try.prog W 0 (fun _ => true) true Try.f4.params.toList args.toList ds p := hA0
  rw [Try.params4] at hA hval hsz
  obtain ⟨v0, vs0, d0, ds0, p0, q0, hargs, rfl, rfl, h0, r0⟩ := trodAll_cons hA
  obtain ⟨v1, vs1, d1, ds1, p1, q1, rfl, rfl, rfl, h1, r1⟩ := trodAll_cons r0
  obtain ⟨rfl, rfl, rfl⟩ := trodAll_nil r1
  obtain rfl : args = #[v0, v1] := by cases args; simp_all
  obtain ⟨rfl, rfl⟩ := trodVars_none hV
  have l0 : Light' Try.prog 22 d0 := light_each hsz (j := 0) rfl rfl
  have l1 : Light' Try.prog 23 d1 := light_each hsz (j := 1) rfl rfl
  obtain ⟨a0, n0, c0, rfl⟩ := okWide_slice Try.underlying22 (hval 0 22 v0 rfl rfl)
  obtain ⟨a1, n1, c1, rfl⟩ := okWide_slice Try.underlying23 (hval 1 23 v1 rfl rfl)
  have k0 := h0
  have k1 := h1
  obtain ⟨fuel0, f0⟩ := h0
  obtain ⟨fuel1, f1⟩ := h1
  obtain ⟨A0, c, cc0, e0, hc0, hC0, hG0, hL0⟩ := code_of f0 l0
  obtain ⟨A1, names, cc1, e1, hc1, hC1, hG1, hL1⟩ := strs_of f1 l1
  simp [Value.cells] at e0 e1
  obtain ⟨rfl, rfl, rfl⟩ := e0
  obtain ⟨rfl, rfl, rfl⟩ := e1
  clear hA0 hval0 hsz0 hsz f0 f1
  obtain ⟨k, hlaw⟩ := (law_Apart c names (fun o ho => opB_of (hG0 o ho))).rounds
  refine (Go.Proofs.Ytcfoebkbahpnaaa.K.legationlaw21_PlanApart.calls k _ _ c _ _ names true W hC0 hc0 hC1 hc1 hlaw).mono fun e W' ⟨he, bel⟩ => ?_
  subst he
  exact ⟨_, rfl, _, _, _, [], _, [], hW', trodAll_mk1 (shut_bool Try.underlying4 _), (trodAll_cons_mk (later_ (of_decide_eq_true (by kernel_rfl)) bel k0) (trodAll_cons_mk (later_ (of_decide_eq_true (by kernel_rfl)) bel k1) trodAll_mk0)), rfl, bel.frame _, fun h => by cases h⟩
theorem over : Rows.planApartRow.holds Try.pinned (OpenSpec.ofChange Rows.planApartSpec) :=
  OpenClaim.holds_of_wide 4 Try.f4 rfl rfl rfl rfl rfl rfl rfl ⟨rfl, rfl, rfl, rfl, rfl⟩ rfl rfl rfl rfl rfl (by kernel_rfl) Try.func4 (by kernel_rfl)
    (of_decide_eq_true (by kernel_rfl)) (by unfold Func.isWrapper; first | (rw [if_pos (by decide +kernel)]; kernel_rfl) | (rw [if_neg (by decide +kernel)]; exact ⟨rfl, rfl⟩))
    (fun os started H enc _ => lifted os started H enc)
end Go.Proofs.Ytcfoebkbahpnaaa.planApart
namespace Go.Proofs.Ytcfoebkbahpnaaa
theorem PlanApart_holds : Rows.PlanApartSaid := planApart.over
#print axioms PlanApart_holds
end Go.Proofs.Ytcfoebkbahpnaaa
