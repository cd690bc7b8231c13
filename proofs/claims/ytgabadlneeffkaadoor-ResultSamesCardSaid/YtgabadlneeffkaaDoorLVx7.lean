-- Written by lp.py: a program of this session's over the kit's printer. Not trusted: Lean checks it.
import Derived.Test.YtgabadlneeffkaaDoorLVx0
import Derived.Test.YtgabadlneeffkaaDoorLVx4
namespace Go.Proofs.YtgabadlneeffkaaDoor.S
open Go.RowKit Go.Proofs.YtgabadlneeffkaaDoorW.PrintWords Go.Proofs.YtgabadlneeffkaaDoorW.PrintLast Go.Proofs.YtgabadlneeffkaaDoorW.PrintMore
attribute [local go_sem] max2_int min2_int max_two min_two max_three min_three max_four min_four
set_option linter.unusedVariables false
set_option linter.unusedSimpArgs false
def strings_Join.f (l0 : List ByteArray) (a1 : ByteArray) : Option (ByteArray) :=
  if l0.length ≤ 140737488355328 ∧ (Lib.join (l0.map (·.data.toList)) a1.data.toList).length ≤ 140737488355328 then some ⟨(Lib.join (l0.map (·.data.toList)) a1.data.toList).toArray⟩ else none
theorem strings_Join.calls (A0 : Option Addr) (c0 : Nat) (l0 : List ByteArray) (a1 : ByteArray) (r : ByteArray) (w : World) (hr0 : Kd.C Kd.string w A0 l0.length l0) (hc0 : l0.length ≤ c0) (h : strings_Join.f l0 a1 = some r) :
    Calls Tryd.prog 30 #[.slice A0 l0.length c0, .string a1] w fun e w' => e = .returned (.string r) ∧ Below w.heap.size w w' := by
  unfold strings_Join.f at h
  by_cases hs : l0.length ≤ 140737488355328 ∧ (Lib.join (l0.map (·.data.toList)) a1.data.toList).length ≤ 140737488355328
  · rw [if_pos hs] at h
    simp only [Option.some.injEq] at h
    subst h
    cases l0 with
    | nil =>
      refine (Tryd.strings_Join_none A0 c0 a1 w).mono ?_
      rintro e w' ⟨rfl, rfl⟩
      exact ⟨rfl, Below.refl _ _⟩
    | cons x xs =>
      obtain ⟨ad, rfl, hcell⟩ := hr0.2.2 (by simp)
      have hk : ∀ (j : Nat) y, (x :: xs)[j]? = some y → w.cell? (ad.add j) = some (.string y) := fun j y hj => by
        obtain ⟨c, hl, hK, hc⟩ := hcell j y hj
        obtain rfl : c = [Value.string y] := hK
        have := hc 0 _ rfl
        simpa [Kd.string, Kd.scalar] using this
      have h0 := hk 0 x rfl
      have hsp : ad.spot = none := by
        cases hq : ad.spot with
        | none => rfl
        | some q =>
          exfalso
          have : (ad.add 0) = ad := by simp [Addr.add]
          rw [this] at h0
          unfold World.cell? at h0
          rw [hq] at h0
          revert h0
          split <;> simp
      obtain ⟨b, o, sp⟩ := ad
      simp only at hsp
      subst hsp
      have hb : b < w.heap.size := by
        have := World.block_lt_of_cell? w _ h0
        simpa [Addr.add] using this
      refine (Tryd.strings_Join b o c0 (x :: xs) a1 w (fun j y hj => ?_) hb hs.1 hc0 hs.2).mono ?_
      · have := hk j y hj
        rwa [add_at] at this
      rintro e w' ⟨rfl, hw⟩
      exact ⟨rfl, hw⟩
  rw [if_neg hs] at h
  cases h
-- NOT PRINTED: function 13 (result_cells)
mutual
def term_quoted.l0 : Nat → ByteArray → List Int → Int → Option (ByteArray)
  | 0, _, _, _ => none
  | k + 1, x0, x3, x4 => if x4 < (x0.size : Int) then (if 0 ≤ x4 then (if (bt x0 x4) = 34 then (term_quoted.j1 k x0 x3 x4 (bt x0 x4) ((bt x0 x4) == 34)) else (term_quoted.j1 k x0 x3 x4 (bt x0 x4) ((bt x0 x4) == 92))) else (none)) else (if x3.length < 140737488355328 then (some (strOfNums (x3 ++ [34]))) else (none))
def term_quoted.j1 : Nat → ByteArray → List Int → Int → Int → Bool → Option (ByteArray)
  | 0, _, _, _, _, _ => none
  | k + 1, x0, x3, x4, x14, x21 => if x21 = true then (if 0 ≤ x4 then (if x4 < (x0.size : Int) then ((some (([92, bt x0 x4] : List Int) : List Int)).bind fun y139 => (if x3.length + y139.length < 140737488355328 then (term_quoted.l0 k x0 (x3 ++ y139) (wrap64 (x4 + 1))) else (none))) else (none)) else (none)) else (if x14 = 10 then ((some (([92, 110] : List Int) : List Int)).bind fun y145 => (if x3.length + y145.length < 140737488355328 then (term_quoted.l0 k x0 (x3 ++ y145) (wrap64 (x4 + 1))) else (none))) else (if x14 = 9 then ((some (([92, 116] : List Int) : List Int)).bind fun y151 => (if x3.length + y151.length < 140737488355328 then (term_quoted.l0 k x0 (x3 ++ y151) (wrap64 (x4 + 1))) else (none))) else (if 0 ≤ x4 then (if x4 < (x0.size : Int) then (if x3.length < 140737488355328 then (term_quoted.l0 k x0 (x3 ++ [bt x0 x4]) (wrap64 (x4 + 1))) else (none)) else (none)) else (none))))
end
def term_quoted.f (k : Nat) (a0 : ByteArray) : Option (ByteArray) := term_quoted.l0 k a0 (([34] : List Int)) 0
set_option maxHeartbeats 8000000 in
set_option maxRecDepth 100000 in
theorem term_quoted.calls (k : Nat) (a0 : ByteArray) (r : ByteArray) (w : World) (h : term_quoted.f k a0 = some r) :
    Calls Tryd.prog 32 #[.string a0] w fun e w' => e = .returned (.string r) ∧ Below w.heap.size w w' := by
  have HB := Aside0.mk (Below.refl w.heap.size w)
  have H : (term_quoted.l0 k a0 (([34] : List Int)) 0) = some r := h
  clear h
  obtain ⟨y133, hy133⟩ : ∃ y_ : List Int, y_ = (([34] : List Int)) := ⟨_, rfl⟩
  replace H : (term_quoted.l0 k a0 y133 0) = some r := by (rw [hy133]; with_reducible exact H)
  have Ny133 := Aside0.mk hy133
  clear hy133
  have H' := Aside0.mk H
  clear H
  go_enter Tryd.func32, Tryd.ntmps32
  go_wp2_with (((with_reducible refine gate_dst (N := 5) rfl ?_); refine Kd.R_lit (Kd.int .u8) _ 5 ?hg (N := 5) ?hd (xs := ([34] : List Int)) (inner := [.int .u8 34]) (ok := fun _ => True) (okp := fun _ => True) ?hr ?hp (fun _ hk => hk) trivial (Below.refl _ _) (Nat.le_refl _) (by simp) ?_; (case hd => rfl); (case hg => rfl); (case hr => (go_simp; done)); (case hp => exact (Reps.one (show Kd.M (Kd.int .u8) _ _ _ 34 [.int .u8 34] from rfl) (Reps.none _ _))); intro v134 w2 ho3 hb hg_ hnew_; clear hg_ hnew_; (rw [← Ny133.out] at ho3); have n0_ := Aside0.mk (Kd.R_lower ho3 (below_size (by repeat ((with_reducible exact HB.out))))); have n1_ := Aside0.mk (below_step (by repeat ((with_reducible exact HB.out))) hb); clear HB; have HO135 := n0_; have HB := n1_; clear n0_ n1_; clear hb ho3))
  go_loopg [3, 4] k (fun kq v3 v4 w' => ∃ (x3_1 : List Int) (x4_1 : Int), v4 = .int .i64 x4_1 ∧ Aside0 (term_quoted.l0 kq a0 x3_1 x4_1 = some r) ∧ Aside0 (kq ≤ k) ∧ Aside0 (Kd.R (Kd.int .u8) 5 w' w.heap.size (fun _ => True) v3 x3_1) ∧ Aside0 (Below w.heap.size w w'))
  case atStart => exact ⟨(y133), (0), (by rfl), H', ⟨Nat.le_refl _⟩, ⟨by (with_reducible repeat (fail)); exact HO135.out⟩, ⟨by repeat ((with_reducible exact HB.out))⟩⟩
  case round =>
    clear H'
    obtain ⟨x3_1, x4_1, rfl, HA, HK1, HO_3, HB⟩ := hrel
    cases gk with
    | zero => exact absurd HA.out (by simp [term_quoted.l0])
    | succ k1 =>
      have H := HA.out
      clear HA
      simp only [term_quoted.l0] at H
      by_cases c4 : x4_1 < (a0.size : Int)
      · rw [if_pos c4] at H
        have c4b0 : decide (x4_1 < (a0.size : Int)) = true := decide_eq_true c4
        clear c4
        by_cases c5 : 0 ≤ x4_1
        · rw [if_pos c5] at H
          have c5b0 : decide (0 ≤ x4_1) = true := decide_eq_true c5
          clear c5
          have HC7 := Aside0.mk H
          clear H
          have p6 : 0 ≤ (x4_1 : Int) := of_decide_eq_true (by (with_reducible assumption))
          have q6 : x4_1 < (a0.size : Int) := of_decide_eq_true (by (with_reducible assumption))
          have hx6 := bt_at a0 x4_1
          replace p6 := eq_true p6
          replace q6 := eq_true q6
          go_upto_if 21 with (fail)
          go_cut [21] (fun v21 wc => ∃ (kq : Nat) (x21_6 : Bool), v21 = .bool x21_6 ∧ Aside0 (term_quoted.j1 kq a0 x3_1 x4_1 (bt a0 x4_1) x21_6 = some r) ∧ Aside0 (kq ≤ k1) ∧ Aside0 (Kd.R (Kd.int .u8) 5 wc w.heap.size (fun _ => True) u3 x3_1) ∧ Aside0 (Below w.heap.size w wc))
          case first =>
            have H := HC7.out
            clear HC7
            by_cases c8 : (bt a0 x4_1) = 34
            · rw [if_pos c8] at H
              have c8b0 : ((bt a0 x4_1) == 34) = true := beq_iff_eq.mpr c8
              have c8b1 : ((bt a0 x4_1) != 34) = false := bne_eq_false_iff_eq.mpr c8
              clear c8
              (rw [c8b0])
              have H' := Aside0.mk H
              clear H
              go_wp2
              go_meet
              case rel => exact ⟨_, (((bt a0 x4_1) == 34)), (by (simp [*]; done)), H', ⟨by have := HK1.out; omega⟩, ⟨by (with_reducible repeat (fail)); exact HO_3.out⟩, ⟨by repeat ((with_reducible exact HB.out))⟩⟩
            rw [if_neg c8] at H
            have c8b0 : ((bt a0 x4_1) == 34) = false := beq_eq_false_iff_ne.mpr c8
            have c8b1 : ((bt a0 x4_1) != 34) = true := bne_iff_ne.mpr c8
            (rw [c8b0])
            have H' := Aside0.mk H
            clear H
            go_wp2
            go_meet
            case rel => exact ⟨_, (((bt a0 x4_1) == 92)), (by rfl), H', ⟨by have := HK1.out; omega⟩, ⟨by (with_reducible repeat (fail)); exact HO_3.out⟩, ⟨by repeat ((with_reducible exact HB.out))⟩⟩
          case rest =>
            clear HC7
            try clear c4b0
            try clear c5b0
            try clear p6
            try clear q6
            try clear hx6
            obtain ⟨kq, x21_6, rfl, HA, HJ6, HO_3, HB⟩ := hcut
            cases kq with
            | zero => exact absurd HA.out (by simp [term_quoted.j1])
            | succ kj6 =>
              have H := HA.out
              clear HA
              simp only [term_quoted.j1] at H
              by_cases c9 : x21_6 = true
              · subst c9
                have H1 : (if 0 ≤ x4_1 then (if x4_1 < (a0.size : Int) then ((some (([92, bt a0 x4_1] : List Int) : List Int)).bind fun y139 => (if x3_1.length + y139.length < 140737488355328 then (term_quoted.l0 kj6 a0 (x3_1 ++ y139) (wrap64 (x4_1 + 1))) else (none))) else (none)) else (none)) = some r := by rw [if_pos rfl] at H; exact H
                clear H
                have H := H1
                clear H1
                by_cases c10 : 0 ≤ x4_1
                · rw [if_pos c10] at H
                  have c10b0 : decide (0 ≤ x4_1) = true := decide_eq_true c10
                  clear c10
                  by_cases c11 : x4_1 < (a0.size : Int)
                  · rw [if_pos c11] at H
                    have c11b0 : decide (x4_1 < (a0.size : Int)) = true := decide_eq_true c11
                    clear c11
                    obtain ⟨y139, hy139⟩ : ∃ y_ : List Int, y_ = (([92, bt a0 x4_1] : List Int)) := ⟨_, rfl⟩
                    replace H : (if x3_1.length + y139.length < 140737488355328 then (term_quoted.l0 kj6 a0 (x3_1 ++ y139) (wrap64 (x4_1 + 1))) else (none)) = some r := by (have H2_ := (Option.bind_some _ _).symm.trans H; rw [hy139]; with_reducible exact H2_)
                    have Ny139 := Aside0.mk hy139
                    clear hy139
                    by_cases c13 : x3_1.length + y139.length < 140737488355328
                    · rw [if_pos c13] at H
                      have LMc13 := Aside0.mk c13
                      clear c13
                      obtain ⟨y142, hy142⟩ : ∃ y_ : List Int, y_ = (x3_1 ++ y139) := ⟨_, rfl⟩
                      replace H : (term_quoted.l0 kj6 a0 y142 (wrap64 (x4_1 + 1))) = some r := by (rw [hy142]; with_reducible exact H)
                      have Ny142 := Aside0.mk hy142
                      clear hy142
                      have H' := Aside0.mk H
                      clear H
                      have p12 : 0 ≤ (x4_1 : Int) := of_decide_eq_true (by (with_reducible assumption))
                      have q12 : x4_1 < (a0.size : Int) := of_decide_eq_true (by (with_reducible assumption))
                      have hx12 := bt_at a0 x4_1
                      replace p12 := eq_true p12
                      replace q12 := eq_true q12
                      go_wp2_with (first | ((with_reducible refine gate_dst (N := 28) rfl ?_); refine Kd.R_lit (Kd.int .u8) _ 5 ?hg (N := 28) ?hd (xs := ([92, bt a0 x4_1] : List Int)) (inner := [.int .u8 92, .int .u8 (bt a0 x4_1)]) (ok := fun _ => True) (okp := fun _ => True) ?hr ?hp (fun _ hk => hk) trivial (Below.refl _ _) (Nat.le_refl _) (by simp) ?_; (case hd => rfl); (case hg => rfl); (case hr => (go_simp; done)); (case hp => exact (Reps.one (show Kd.M (Kd.int .u8) _ _ _ 92 [.int .u8 92] from rfl) (Reps.one (show Kd.M (Kd.int .u8) _ _ _ (bt a0 x4_1) [.int .u8 (bt a0 x4_1)] from rfl) (Reps.none _ _)))); intro v140 w14 ho15 hb hg_ hnew_; clear hg_ hnew_; (rw [← Ny139.out] at ho15); have n0_ := Aside0.mk (Kd.R_elder' (by (with_reducible repeat (fail)); exact HO_3.out) (Kd.R_base ho15) hb); have n1_ := Aside0.mk (Kd.R_lower (Kd.R_new' ho15 (Kd.R_lt (by (with_reducible repeat (fail)); exact HO_3.out))) (below_size (by repeat ((with_reducible exact HB.out))))); have n2_ := Aside0.mk (below_step (by repeat ((with_reducible exact HB.out))) hb); clear HO_3; clear HB; have HO_3 := n0_; have HO141 := n1_; have HB := n2_; clear n0_ n1_ n2_; clear hb ho15; obtain ⟨Ao17, co17, eo17⟩ := Kd.R_slice HO141.out; subst eo17) | ((with_reducible refine gate_builtin (b := .append) (xs := #[.tmp 24, .tmp 28]) rfl ?_); at_builtin; refine Kd.R_append_rows (Kd.int .u8) (w0 := w) w.heap.size rfl (.tmp 24) (.tmp 28) 70 5 (.int .u8 0) 1 rfl Tryd.underlying70 info5 rfl (by decide) (by omega) u3 x3_1 y139 _ _ _ (fun k_ => some k_ ≠ (.slice Ao17 y139.length co17 : Value).ownBlock) (fun _ => False) rfl rfl ?aO ?aR (fun _ _ h => h) (fun _ h => h.elim) ?aF ?aB ?aS ?aL ?_; (case aR => repeat (exact (Kd.R_reads' HO141.out).2.2)); (case aB => exact (by repeat ((with_reducible exact HB.out)))); (case aF => exact (fun k_ hk => Kd.fresh' (Kd.R_lt (by (with_reducible repeat (fail)); exact HO141.out)) k_ hk)); (case aO => exact (by (with_reducible repeat (fail)); exact Kd.R_mono HO_3.out (fun _ hk => hk.2))); (case aS => exact (below_size (by repeat ((with_reducible exact HB.out))))); (case aL => have := LMc13.out; omega); intro v143 w16 ho hb hg hat; rw [← Ny142.out] at ho; have n0_ := Aside0.mk (Kd.R_after (ok := (fun _ => True)) (by (with_reducible repeat (fail)); exact HO141.out) hg hat); have n1_ := Aside0.mk (hb); have n2_ := Aside0.mk (ho); clear HO141; clear HB; clear HO_3; have HO141 := n0_; have HB := n1_; have HO144 := n2_; clear n0_ n1_ n2_; clear ho hb hg hat))
                      go_roundg kj6
                      case measure => have := HK1.out; have := HJ6.out; omega
                      case rel => exact ⟨(y142), (wrap64 (x4_1 + 1)), (by rfl), H', ⟨by have := HK1.out; have := HJ6.out; omega⟩, ⟨by (with_reducible repeat (fail)); exact Kd.R_mono HO144.out (fun _ hk => trivial)⟩, ⟨by repeat ((with_reducible exact HB.out))⟩⟩
                    rw [if_neg c13] at H
                    exact absurd H (by simp)
                  rw [if_neg c11] at H
                  exact absurd H (by simp)
                rw [if_neg c10] at H
                exact absurd H (by simp)
              replace c9 := Bool.eq_false_iff.mpr c9
              subst c9
              have H1 : (if (bt a0 x4_1) = 10 then ((some (([92, 110] : List Int) : List Int)).bind fun y145 => (if x3_1.length + y145.length < 140737488355328 then (term_quoted.l0 kj6 a0 (x3_1 ++ y145) (wrap64 (x4_1 + 1))) else (none))) else (if (bt a0 x4_1) = 9 then ((some (([92, 116] : List Int) : List Int)).bind fun y151 => (if x3_1.length + y151.length < 140737488355328 then (term_quoted.l0 kj6 a0 (x3_1 ++ y151) (wrap64 (x4_1 + 1))) else (none))) else (if 0 ≤ x4_1 then (if x4_1 < (a0.size : Int) then (if x3_1.length < 140737488355328 then (term_quoted.l0 kj6 a0 (x3_1 ++ [bt a0 x4_1]) (wrap64 (x4_1 + 1))) else (none)) else (none)) else (none)))) = some r := by rw [if_neg (show ¬ (false = true) by decide)] at H; exact H
              clear H
              have H := H1
              clear H1
              by_cases c18 : (bt a0 x4_1) = 10
              · rw [if_pos c18] at H
                have c18b0 : ((bt a0 x4_1) == 10) = true := beq_iff_eq.mpr c18
                have c18b1 : ((bt a0 x4_1) != 10) = false := bne_eq_false_iff_eq.mpr c18
                clear c18
                obtain ⟨y145, hy145⟩ : ∃ y_ : List Int, y_ = (([92, 110] : List Int)) := ⟨_, rfl⟩
                replace H : (if x3_1.length + y145.length < 140737488355328 then (term_quoted.l0 kj6 a0 (x3_1 ++ y145) (wrap64 (x4_1 + 1))) else (none)) = some r := by (have H2_ := (Option.bind_some _ _).symm.trans H; rw [hy145]; with_reducible exact H2_)
                have Ny145 := Aside0.mk hy145
                clear hy145
                by_cases c19 : x3_1.length + y145.length < 140737488355328
                · rw [if_pos c19] at H
                  have LMc19 := Aside0.mk c19
                  clear c19
                  obtain ⟨y148, hy148⟩ : ∃ y_ : List Int, y_ = (x3_1 ++ y145) := ⟨_, rfl⟩
                  replace H : (term_quoted.l0 kj6 a0 y148 (wrap64 (x4_1 + 1))) = some r := by (rw [hy148]; with_reducible exact H)
                  have Ny148 := Aside0.mk hy148
                  clear hy148
                  have H' := Aside0.mk H
                  clear H
                  go_wp2_with (first | ((with_reducible refine gate_dst (N := 33) rfl ?_); refine Kd.R_lit (Kd.int .u8) _ 5 ?hg (N := 33) ?hd (xs := ([92, 110] : List Int)) (inner := [.int .u8 92, .int .u8 110]) (ok := fun _ => True) (okp := fun _ => True) ?hr ?hp (fun _ hk => hk) trivial (Below.refl _ _) (Nat.le_refl _) (by simp) ?_; (case hd => rfl); (case hg => rfl); (case hr => (go_simp; done)); (case hp => exact (Reps.one (show Kd.M (Kd.int .u8) _ _ _ 92 [.int .u8 92] from rfl) (Reps.one (show Kd.M (Kd.int .u8) _ _ _ 110 [.int .u8 110] from rfl) (Reps.none _ _)))); intro v146 w20 ho21 hb hg_ hnew_; clear hg_ hnew_; (rw [← Ny145.out] at ho21); have n0_ := Aside0.mk (Kd.R_elder' (by (with_reducible repeat (fail)); exact HO_3.out) (Kd.R_base ho21) hb); have n1_ := Aside0.mk (Kd.R_lower (Kd.R_new' ho21 (Kd.R_lt (by (with_reducible repeat (fail)); exact HO_3.out))) (below_size (by repeat ((with_reducible exact HB.out))))); have n2_ := Aside0.mk (below_step (by repeat ((with_reducible exact HB.out))) hb); clear HO_3; clear HB; have HO_3 := n0_; have HO147 := n1_; have HB := n2_; clear n0_ n1_ n2_; clear hb ho21; obtain ⟨Ao23, co23, eo23⟩ := Kd.R_slice HO147.out; subst eo23) | ((with_reducible refine gate_builtin (b := .append) (xs := #[.tmp 32, .tmp 33]) rfl ?_); at_builtin; refine Kd.R_append_rows (Kd.int .u8) (w0 := w) w.heap.size rfl (.tmp 32) (.tmp 33) 70 5 (.int .u8 0) 1 rfl Tryd.underlying70 info5 rfl (by decide) (by omega) u3 x3_1 y145 _ _ _ (fun k_ => some k_ ≠ (.slice Ao23 y145.length co23 : Value).ownBlock) (fun _ => False) rfl rfl ?aO ?aR (fun _ _ h => h) (fun _ h => h.elim) ?aF ?aB ?aS ?aL ?_; (case aR => repeat (exact (Kd.R_reads' HO147.out).2.2)); (case aB => exact (by repeat ((with_reducible exact HB.out)))); (case aF => exact (fun k_ hk => Kd.fresh' (Kd.R_lt (by (with_reducible repeat (fail)); exact HO147.out)) k_ hk)); (case aO => exact (by (with_reducible repeat (fail)); exact Kd.R_mono HO_3.out (fun _ hk => hk.2))); (case aS => exact (below_size (by repeat ((with_reducible exact HB.out))))); (case aL => have := LMc19.out; omega); intro v149 w22 ho hb hg hat; rw [← Ny148.out] at ho; have n0_ := Aside0.mk (Kd.R_after (ok := (fun _ => True)) (by (with_reducible repeat (fail)); exact HO147.out) hg hat); have n1_ := Aside0.mk (hb); have n2_ := Aside0.mk (ho); clear HO147; clear HB; clear HO_3; have HO147 := n0_; have HB := n1_; have HO150 := n2_; clear n0_ n1_ n2_; clear ho hb hg hat))
                  go_roundg kj6
                  case measure => have := HK1.out; have := HJ6.out; omega
                  case rel => exact ⟨(y148), (wrap64 (x4_1 + 1)), (by rfl), H', ⟨by have := HK1.out; have := HJ6.out; omega⟩, ⟨by (with_reducible repeat (fail)); exact Kd.R_mono HO150.out (fun _ hk => trivial)⟩, ⟨by repeat ((with_reducible exact HB.out))⟩⟩
                rw [if_neg c19] at H
                exact absurd H (by simp)
              rw [if_neg c18] at H
              have c18b0 : ((bt a0 x4_1) == 10) = false := beq_eq_false_iff_ne.mpr c18
              have c18b1 : ((bt a0 x4_1) != 10) = true := bne_iff_ne.mpr c18
              by_cases c24 : (bt a0 x4_1) = 9
              · rw [if_pos c24] at H
                have c24b0 : ((bt a0 x4_1) == 9) = true := beq_iff_eq.mpr c24
                have c24b1 : ((bt a0 x4_1) != 9) = false := bne_eq_false_iff_eq.mpr c24
                clear c24
                obtain ⟨y151, hy151⟩ : ∃ y_ : List Int, y_ = (([92, 116] : List Int)) := ⟨_, rfl⟩
                replace H : (if x3_1.length + y151.length < 140737488355328 then (term_quoted.l0 kj6 a0 (x3_1 ++ y151) (wrap64 (x4_1 + 1))) else (none)) = some r := by (have H2_ := (Option.bind_some _ _).symm.trans H; rw [hy151]; with_reducible exact H2_)
                have Ny151 := Aside0.mk hy151
                clear hy151
                by_cases c25 : x3_1.length + y151.length < 140737488355328
                · rw [if_pos c25] at H
                  have LMc25 := Aside0.mk c25
                  clear c25
                  obtain ⟨y154, hy154⟩ : ∃ y_ : List Int, y_ = (x3_1 ++ y151) := ⟨_, rfl⟩
                  replace H : (term_quoted.l0 kj6 a0 y154 (wrap64 (x4_1 + 1))) = some r := by (rw [hy154]; with_reducible exact H)
                  have Ny154 := Aside0.mk hy154
                  clear hy154
                  have H' := Aside0.mk H
                  clear H
                  go_wp2_with (first | ((with_reducible refine gate_dst (N := 38) rfl ?_); refine Kd.R_lit (Kd.int .u8) _ 5 ?hg (N := 38) ?hd (xs := ([92, 116] : List Int)) (inner := [.int .u8 92, .int .u8 116]) (ok := fun _ => True) (okp := fun _ => True) ?hr ?hp (fun _ hk => hk) trivial (Below.refl _ _) (Nat.le_refl _) (by simp) ?_; (case hd => rfl); (case hg => rfl); (case hr => (go_simp; done)); (case hp => exact (Reps.one (show Kd.M (Kd.int .u8) _ _ _ 92 [.int .u8 92] from rfl) (Reps.one (show Kd.M (Kd.int .u8) _ _ _ 116 [.int .u8 116] from rfl) (Reps.none _ _)))); intro v152 w26 ho27 hb hg_ hnew_; clear hg_ hnew_; (rw [← Ny151.out] at ho27); have n0_ := Aside0.mk (Kd.R_elder' (by (with_reducible repeat (fail)); exact HO_3.out) (Kd.R_base ho27) hb); have n1_ := Aside0.mk (Kd.R_lower (Kd.R_new' ho27 (Kd.R_lt (by (with_reducible repeat (fail)); exact HO_3.out))) (below_size (by repeat ((with_reducible exact HB.out))))); have n2_ := Aside0.mk (below_step (by repeat ((with_reducible exact HB.out))) hb); clear HO_3; clear HB; have HO_3 := n0_; have HO153 := n1_; have HB := n2_; clear n0_ n1_ n2_; clear hb ho27; obtain ⟨Ao29, co29, eo29⟩ := Kd.R_slice HO153.out; subst eo29) | ((with_reducible refine gate_builtin (b := .append) (xs := #[.tmp 37, .tmp 38]) rfl ?_); at_builtin; refine Kd.R_append_rows (Kd.int .u8) (w0 := w) w.heap.size rfl (.tmp 37) (.tmp 38) 70 5 (.int .u8 0) 1 rfl Tryd.underlying70 info5 rfl (by decide) (by omega) u3 x3_1 y151 _ _ _ (fun k_ => some k_ ≠ (.slice Ao29 y151.length co29 : Value).ownBlock) (fun _ => False) rfl rfl ?aO ?aR (fun _ _ h => h) (fun _ h => h.elim) ?aF ?aB ?aS ?aL ?_; (case aR => repeat (exact (Kd.R_reads' HO153.out).2.2)); (case aB => exact (by repeat ((with_reducible exact HB.out)))); (case aF => exact (fun k_ hk => Kd.fresh' (Kd.R_lt (by (with_reducible repeat (fail)); exact HO153.out)) k_ hk)); (case aO => exact (by (with_reducible repeat (fail)); exact Kd.R_mono HO_3.out (fun _ hk => hk.2))); (case aS => exact (below_size (by repeat ((with_reducible exact HB.out))))); (case aL => have := LMc25.out; omega); intro v155 w28 ho hb hg hat; rw [← Ny154.out] at ho; have n0_ := Aside0.mk (Kd.R_after (ok := (fun _ => True)) (by (with_reducible repeat (fail)); exact HO153.out) hg hat); have n1_ := Aside0.mk (hb); have n2_ := Aside0.mk (ho); clear HO153; clear HB; clear HO_3; have HO153 := n0_; have HB := n1_; have HO156 := n2_; clear n0_ n1_ n2_; clear ho hb hg hat))
                  go_roundg kj6
                  case measure => have := HK1.out; have := HJ6.out; omega
                  case rel => exact ⟨(y154), (wrap64 (x4_1 + 1)), (by rfl), H', ⟨by have := HK1.out; have := HJ6.out; omega⟩, ⟨by (with_reducible repeat (fail)); exact Kd.R_mono HO156.out (fun _ hk => trivial)⟩, ⟨by repeat ((with_reducible exact HB.out))⟩⟩
                rw [if_neg c25] at H
                exact absurd H (by simp)
              rw [if_neg c24] at H
              have c24b0 : ((bt a0 x4_1) == 9) = false := beq_eq_false_iff_ne.mpr c24
              have c24b1 : ((bt a0 x4_1) != 9) = true := bne_iff_ne.mpr c24
              by_cases c30 : 0 ≤ x4_1
              · rw [if_pos c30] at H
                have c30b0 : decide (0 ≤ x4_1) = true := decide_eq_true c30
                clear c30
                by_cases c31 : x4_1 < (a0.size : Int)
                · rw [if_pos c31] at H
                  have c31b0 : decide (x4_1 < (a0.size : Int)) = true := decide_eq_true c31
                  clear c31
                  by_cases c33 : x3_1.length < 140737488355328
                  · rw [if_pos c33] at H
                    have LMc33 := Aside0.mk c33
                    clear c33
                    obtain ⟨y157, hy157⟩ : ∃ y_ : List Int, y_ = (x3_1 ++ [bt a0 x4_1]) := ⟨_, rfl⟩
                    replace H : (term_quoted.l0 kj6 a0 y157 (wrap64 (x4_1 + 1))) = some r := by (rw [hy157]; with_reducible exact H)
                    have Ny157 := Aside0.mk hy157
                    clear hy157
                    have H' := Aside0.mk H
                    clear H
                    have p32 : 0 ≤ (x4_1 : Int) := of_decide_eq_true (by (with_reducible assumption))
                    have q32 : x4_1 < (a0.size : Int) := of_decide_eq_true (by (with_reducible assumption))
                    have hx32 := bt_at a0 x4_1
                    replace p32 := eq_true p32
                    replace q32 := eq_true q32
                    go_wp2_with (((with_reducible refine gate_builtin (b := .append) (xs := #[.tmp 15, .tmp 19]) rfl ?_); at_builtin; refine Kd.R_append (Kd.int .u8) (w0 := w) w.heap.size rfl (.tmp 15) (.tmp 19) 70 5 (.int .u8 0) 1 rfl Tryd.underlying70 info5 rfl (by decide) (by omega) u3 x3_1 (bt a0 x4_1) [.int .u8 (bt a0 x4_1)] (fun _ => True) (fun _ => False) rfl rfl ?aP (fun _ hk => hk.elim) ?aF ?aO ?aB ?aS ?aL ?_; (case aP => exact rfl); (case aB => exact (by repeat ((with_reducible exact HB.out)))); (case aF => exact (fun _ _ => trivial)); (case aO => exact (by (with_reducible repeat (fail)); exact HO_3.out)); (case aS => exact (below_size (by repeat ((with_reducible exact HB.out))))); (case aL => have := LMc33.out; omega); intro v158 w34 ho hb hg hat; rw [← Ny157.out] at ho; have n0_ := Aside0.mk (hb); have n1_ := Aside0.mk (ho); clear HB; clear HO_3; have HB := n0_; have HO159 := n1_; clear n0_ n1_; clear ho hb hg hat))
                    go_roundg kj6
                    case measure => have := HK1.out; have := HJ6.out; omega
                    case rel => exact ⟨(y157), (wrap64 (x4_1 + 1)), (by rfl), H', ⟨by have := HK1.out; have := HJ6.out; omega⟩, ⟨by (with_reducible repeat (fail)); exact HO159.out⟩, ⟨by repeat ((with_reducible exact HB.out))⟩⟩
                  rw [if_neg c33] at H
                  exact absurd H (by simp)
                rw [if_neg c31] at H
                exact absurd H (by simp)
              rw [if_neg c30] at H
              exact absurd H (by simp)
        rw [if_neg c5] at H
        exact absurd H (by simp)
      rw [if_neg c4] at H
      have c4b0 : decide (x4_1 < (a0.size : Int)) = false := decide_eq_false c4
      clear c4
      by_cases c35 : x3_1.length < 140737488355328
      · rw [if_pos c35] at H
        have LMc35 := Aside0.mk c35
        clear c35
        obtain ⟨y136, hy136⟩ : ∃ y_ : List Int, y_ = (x3_1 ++ [34]) := ⟨_, rfl⟩
        replace H : (some (strOfNums y136)) = some r := by (rw [hy136]; with_reducible exact H)
        have Ny136 := Aside0.mk hy136
        clear hy136
        obtain rfl := Option.some.inj H
        go_wp2_with (((with_reducible refine gate_builtin (b := .append) (xs := #[.tmp 40, .tmp 41]) rfl ?_); at_builtin; refine Kd.R_append (Kd.int .u8) (w0 := w) w.heap.size rfl (.tmp 40) (.tmp 41) 70 5 (.int .u8 0) 1 rfl Tryd.underlying70 info5 rfl (by decide) (by omega) u3 x3_1 34 [.int .u8 34] (fun _ => True) (fun _ => False) rfl rfl ?aP (fun _ hk => hk.elim) ?aF ?aO ?aB ?aS ?aL ?_; (case aP => exact rfl); (case aB => exact (by repeat ((with_reducible exact HB.out)))); (case aF => exact (fun _ _ => trivial)); (case aO => exact (by (with_reducible repeat (fail)); exact HO_3.out)); (case aS => exact (below_size (by repeat ((with_reducible exact HB.out))))); (case aL => have := LMc35.out; omega); intro v137 w36 ho hb hg hat; rw [← Ny136.out] at ho; have n0_ := Aside0.mk (hb); have n1_ := Aside0.mk (ho); clear HB; clear HO_3; have HB := n0_; have HO138 := n1_; clear n0_ n1_; clear ho hb hg hat; have hcv37 := own_string (P := Tryd.prog) Tryd.underlying70 Tryd.underlying5 Tryd.underlying9 (Kd.own_of_R HO138.out)))
        go_ret
        exact ⟨by rfl, by repeat ((with_reducible exact HB.out))⟩
      rw [if_neg c35] at H
      exact absurd H (by simp)
def term_Text.f (k : Nat) (a0_0 : Int) (a0_1 : ByteArray) (a0_2 : ByteArray) (a0_3 : ByteArray) : Option (ByteArray × Int) := (term_Check.f k a0_0 a0_1 a0_2 a0_3).bind fun t161 => (if t161 = 0 then (if a0_0 = 1 then (if 1 + a0_1.size ≤ 9223372036854775807 then (if ((⟨#[60]⟩ : ByteArray) ++ a0_1).size + 1 ≤ 9223372036854775807 then (some (((⟨#[60]⟩ : ByteArray) ++ a0_1) ++ (⟨#[62]⟩ : ByteArray), 0)) else (none)) else (none)) else (if a0_0 = 3 then (if 2 + a0_1.size ≤ 9223372036854775807 then (some ((⟨#[95, 58]⟩ : ByteArray) ++ a0_1, 0)) else (none)) else (if a0_0 = 4 then (if 1 + a0_1.size ≤ 9223372036854775807 then (some ((⟨#[63]⟩ : ByteArray) ++ a0_1, 0)) else (none)) else (if a0_0 = 2 then ((term_quoted.f k a0_1).bind fun t162 => (if a0_2.toList = ([] : List UInt8) then (if a0_3.toList = ([] : List UInt8) then (some (t162, 0)) else (if 1 + a0_3.size ≤ 9223372036854775807 then (if t162.size + ((⟨#[64]⟩ : ByteArray) ++ a0_3).size ≤ 9223372036854775807 then (some (t162 ++ ((⟨#[64]⟩ : ByteArray) ++ a0_3), 0)) else (none)) else (none))) else (if 3 + a0_2.size ≤ 9223372036854775807 then (if ((⟨#[94, 94, 60]⟩ : ByteArray) ++ a0_2).size + 1 ≤ 9223372036854775807 then (if t162.size + (((⟨#[94, 94, 60]⟩ : ByteArray) ++ a0_2) ++ (⟨#[62]⟩ : ByteArray)).size ≤ 9223372036854775807 then (if a0_3.toList = ([] : List UInt8) then (some (t162 ++ (((⟨#[94, 94, 60]⟩ : ByteArray) ++ a0_2) ++ (⟨#[62]⟩ : ByteArray)), 0)) else (if 1 + a0_3.size ≤ 9223372036854775807 then (if (t162 ++ (((⟨#[94, 94, 60]⟩ : ByteArray) ++ a0_2) ++ (⟨#[62]⟩ : ByteArray))).size + ((⟨#[64]⟩ : ByteArray) ++ a0_3).size ≤ 9223372036854775807 then (some ((t162 ++ (((⟨#[94, 94, 60]⟩ : ByteArray) ++ a0_2) ++ (⟨#[62]⟩ : ByteArray))) ++ ((⟨#[64]⟩ : ByteArray) ++ a0_3), 0)) else (none)) else (none))) else (none)) else (none)) else (none)))) else (some ((⟨#[]⟩ : ByteArray), 0)))))) else (some ((⟨#[]⟩ : ByteArray), t161)))
set_option maxHeartbeats 8000000 in
set_option maxRecDepth 100000 in
theorem term_Text.calls (k : Nat) (a0_0 : Int) (a0_1 : ByteArray) (a0_2 : ByteArray) (a0_3 : ByteArray) (r1 : ByteArray) (r2 : Int) (w : World) (h : term_Text.f k a0_0 a0_1 a0_2 a0_3 = some (r1, r2)) :
    Calls Tryd.prog 16 #[.agg #[.int .i64 a0_0, .string a0_1, .string a0_2, .string a0_3]] w fun e w' => e = .returned (.tuple #[.string r1, .int .i64 r2]) ∧ Below w.heap.size w w' := by
  have hu43 := Tryd.underlying43
  have HB := Aside0.mk (Below.refl w.heap.size w)
  have H : ((term_Check.f k a0_0 a0_1 a0_2 a0_3).bind fun t161 => (if t161 = 0 then (if a0_0 = 1 then (if 1 + a0_1.size ≤ 9223372036854775807 then (if ((⟨#[60]⟩ : ByteArray) ++ a0_1).size + 1 ≤ 9223372036854775807 then (some (((⟨#[60]⟩ : ByteArray) ++ a0_1) ++ (⟨#[62]⟩ : ByteArray), 0)) else (none)) else (none)) else (if a0_0 = 3 then (if 2 + a0_1.size ≤ 9223372036854775807 then (some ((⟨#[95, 58]⟩ : ByteArray) ++ a0_1, 0)) else (none)) else (if a0_0 = 4 then (if 1 + a0_1.size ≤ 9223372036854775807 then (some ((⟨#[63]⟩ : ByteArray) ++ a0_1, 0)) else (none)) else (if a0_0 = 2 then ((term_quoted.f k a0_1).bind fun t162 => (if a0_2.toList = ([] : List UInt8) then (if a0_3.toList = ([] : List UInt8) then (some (t162, 0)) else (if 1 + a0_3.size ≤ 9223372036854775807 then (if t162.size + ((⟨#[64]⟩ : ByteArray) ++ a0_3).size ≤ 9223372036854775807 then (some (t162 ++ ((⟨#[64]⟩ : ByteArray) ++ a0_3), 0)) else (none)) else (none))) else (if 3 + a0_2.size ≤ 9223372036854775807 then (if ((⟨#[94, 94, 60]⟩ : ByteArray) ++ a0_2).size + 1 ≤ 9223372036854775807 then (if t162.size + (((⟨#[94, 94, 60]⟩ : ByteArray) ++ a0_2) ++ (⟨#[62]⟩ : ByteArray)).size ≤ 9223372036854775807 then (if a0_3.toList = ([] : List UInt8) then (some (t162 ++ (((⟨#[94, 94, 60]⟩ : ByteArray) ++ a0_2) ++ (⟨#[62]⟩ : ByteArray)), 0)) else (if 1 + a0_3.size ≤ 9223372036854775807 then (if (t162 ++ (((⟨#[94, 94, 60]⟩ : ByteArray) ++ a0_2) ++ (⟨#[62]⟩ : ByteArray))).size + ((⟨#[64]⟩ : ByteArray) ++ a0_3).size ≤ 9223372036854775807 then (some ((t162 ++ (((⟨#[94, 94, 60]⟩ : ByteArray) ++ a0_2) ++ (⟨#[62]⟩ : ByteArray))) ++ ((⟨#[64]⟩ : ByteArray) ++ a0_3), 0)) else (none)) else (none))) else (none)) else (none)) else (none)))) else (some ((⟨#[]⟩ : ByteArray), 0)))))) else (some ((⟨#[]⟩ : ByteArray), t161)))) = some (r1, r2) := h
  clear h
  replace H := Option.bind_eq_some_iff.mp H
  obtain ⟨t161, A20, H⟩ := H
  replace H : (if t161 = 0 then (if a0_0 = 1 then (if 1 + a0_1.size ≤ 9223372036854775807 then (if ((⟨#[60]⟩ : ByteArray) ++ a0_1).size + 1 ≤ 9223372036854775807 then (some (((⟨#[60]⟩ : ByteArray) ++ a0_1) ++ (⟨#[62]⟩ : ByteArray), 0)) else (none)) else (none)) else (if a0_0 = 3 then (if 2 + a0_1.size ≤ 9223372036854775807 then (some ((⟨#[95, 58]⟩ : ByteArray) ++ a0_1, 0)) else (none)) else (if a0_0 = 4 then (if 1 + a0_1.size ≤ 9223372036854775807 then (some ((⟨#[63]⟩ : ByteArray) ++ a0_1, 0)) else (none)) else (if a0_0 = 2 then ((term_quoted.f k a0_1).bind fun t162 => (if a0_2.toList = ([] : List UInt8) then (if a0_3.toList = ([] : List UInt8) then (some (t162, 0)) else (if 1 + a0_3.size ≤ 9223372036854775807 then (if t162.size + ((⟨#[64]⟩ : ByteArray) ++ a0_3).size ≤ 9223372036854775807 then (some (t162 ++ ((⟨#[64]⟩ : ByteArray) ++ a0_3), 0)) else (none)) else (none))) else (if 3 + a0_2.size ≤ 9223372036854775807 then (if ((⟨#[94, 94, 60]⟩ : ByteArray) ++ a0_2).size + 1 ≤ 9223372036854775807 then (if t162.size + (((⟨#[94, 94, 60]⟩ : ByteArray) ++ a0_2) ++ (⟨#[62]⟩ : ByteArray)).size ≤ 9223372036854775807 then (if a0_3.toList = ([] : List UInt8) then (some (t162 ++ (((⟨#[94, 94, 60]⟩ : ByteArray) ++ a0_2) ++ (⟨#[62]⟩ : ByteArray)), 0)) else (if 1 + a0_3.size ≤ 9223372036854775807 then (if (t162 ++ (((⟨#[94, 94, 60]⟩ : ByteArray) ++ a0_2) ++ (⟨#[62]⟩ : ByteArray))).size + ((⟨#[64]⟩ : ByteArray) ++ a0_3).size ≤ 9223372036854775807 then (some ((t162 ++ (((⟨#[94, 94, 60]⟩ : ByteArray) ++ a0_2) ++ (⟨#[62]⟩ : ByteArray))) ++ ((⟨#[64]⟩ : ByteArray) ++ a0_3), 0)) else (none)) else (none))) else (none)) else (none)) else (none)))) else (some ((⟨#[]⟩ : ByteArray), 0)))))) else (some ((⟨#[]⟩ : ByteArray), t161))) = some (r1, r2) := H
  have A2 := Aside0.mk A20
  clear A20
  by_cases c3 : t161 = 0
  · rw [if_pos c3] at H
    have c3b0 : (t161 == 0) = true := beq_iff_eq.mpr c3
    have c3b1 : (t161 != 0) = false := bne_eq_false_iff_eq.mpr c3
    clear c3
    by_cases c4 : a0_0 = 1
    · rw [if_pos c4] at H
      have c4b0 : (a0_0 == 1) = true := beq_iff_eq.mpr c4
      have c4b1 : (a0_0 != 1) = false := bne_eq_false_iff_eq.mpr c4
      clear c4
      by_cases c5 : 1 + a0_1.size ≤ 9223372036854775807
      · rw [if_pos c5] at H
        have c5b0 := eq_true c5
        have c5b1 : decide (1 + a0_1.size ≤ 9223372036854775807) = true := decide_eq_true c5
        try have c5b2 : (9223372036854775807 < 1 + a0_1.size) = False := eq_false (Nat.not_lt.2 c5)
        by_cases c6 : ((⟨#[60]⟩ : ByteArray) ++ a0_1).size + 1 ≤ 9223372036854775807
        · rw [if_pos c6] at H
          have c6b0 := eq_true c6
          have c6b1 : decide (((⟨#[60]⟩ : ByteArray) ++ a0_1).size + 1 ≤ 9223372036854775807) = true := decide_eq_true c6
          try have c6b2 : (9223372036854775807 < ((⟨#[60]⟩ : ByteArray) ++ a0_1).size + 1) = False := eq_false (Nat.not_lt.2 c6)
          try have c6b3 : (9223372036854775807 < (1 + a0_1.size) + 1) = False := eq_false (Nat.not_lt.2 (by have h_ := c6; simp only [ByteArray.size_append] at h_; exact h_))
          simp only [Option.some.injEq, Prod.mk.injEq] at H
          obtain ⟨rfl, rfl⟩ := H
          go_enter Tryd.func16, Tryd.ntmps16
          go_wp2_with (first | ((with_reducible refine gate_dst (N := 1) rfl ?_); refine box_event ?hg (N := 1) ?hd (cs := #[.int .i64 a0_0, .string a0_1, .string a0_2, .string a0_3]) (t := 43) ?hr ?_; (case hd => rfl); (case hg => rfl); (case hr => (go_simp; done)); intro gb160 hg w7 hbox hb; have n0_ := Aside0.mk (below_step (by repeat ((with_reducible exact HB.out))) hb); have n1_ := Aside0.mk (hbox); have n2_ := Aside0.mk ((by rw [hg]; exact (below_size (by repeat ((with_reducible exact HB.out)))) : w.heap.size ≤ gb160)); have n3_ := Aside0.mk ((by rw [hg]; exact (below_size (by repeat ((with_reducible exact HB.out)))) : w.heap.size ≤ gb160)); clear HB; have HB := n0_; have BK160 := n1_; have GW160 := n2_; have GE160 := n3_; clear n0_ n1_ n2_ n3_; clear hb hbox hg; have hcz8_0 : w7.cell? ⟨gb160, 0, none⟩ = some (.int .i64 a0_0) := (blk_cell BK160.out 0).trans rfl; have hcz8_1 : w7.cell? ⟨gb160, 1, none⟩ = some (.string a0_1) := (blk_cell BK160.out 1).trans rfl; have hcz8_2 : w7.cell? ⟨gb160, 2, none⟩ = some (.string a0_2) := (blk_cell BK160.out 2).trans rfl; have hcz8_3 : w7.cell? ⟨gb160, 3, none⟩ = some (.string a0_3) := (blk_cell BK160.out 3).trans rfl; have hfz8_0 := blk_frozen BK160.out 0; have hfz8_1 := blk_frozen BK160.out 1; have hfz8_2 := blk_frozen BK160.out 2; have hfz8_3 := blk_frozen BK160.out 3) | ((with_reducible refine gate_callee (f := 31) rfl ?_); refine goesL_ (some 7) rfl rfl Tryd.func31 (by kernel_rfl) rfl #[.agg #[.int .i64 a0_0, .string a0_1, .string a0_2, .string a0_3]] rfl (by (try simp only [List.map_toArray, List.map_cons, List.map_nil]); rfl) ?_; (with_reducible refine (term_Check.calls k a0_0 a0_1 a0_2 a0_3 t161 _ A2.out).mono ?_); rintro e w9 ⟨rfl, hb⟩; refine ⟨_, rfl, ?_⟩; have n0_ := Aside0.mk (blk_below (g := gb160) (o := .cells #[.int .i64 a0_0, .string a0_1, .string a0_2, .string a0_3] 43 (0, 0)) (by (with_reducible repeat (fail)); exact BK160.out) hb); have n1_ := Aside0.mk (below_step (by repeat ((with_reducible exact HB.out))) hb); clear BK160; clear HB; have BK160 := n0_; have HB := n1_; clear n0_ n1_; (try clear hb); have hcz10_0 : w9.cell? ⟨gb160, 0, none⟩ = some (.int .i64 a0_0) := (blk_cell BK160.out 0).trans rfl; have hcz10_1 : w9.cell? ⟨gb160, 1, none⟩ = some (.string a0_1) := (blk_cell BK160.out 1).trans rfl; have hcz10_2 : w9.cell? ⟨gb160, 2, none⟩ = some (.string a0_2) := (blk_cell BK160.out 2).trans rfl; have hcz10_3 : w9.cell? ⟨gb160, 3, none⟩ = some (.string a0_3) := (blk_cell BK160.out 3).trans rfl; have hfz10_0 := blk_frozen BK160.out 0; have hfz10_1 := blk_frozen BK160.out 1; have hfz10_2 := blk_frozen BK160.out 2; have hfz10_3 := blk_frozen BK160.out 3))
          go_ret2
          exact ⟨by rfl, by repeat ((with_reducible exact HB.out))⟩
        rw [if_neg c6] at H
        exact absurd H (by simp)
      rw [if_neg c5] at H
      exact absurd H (by simp)
    rw [if_neg c4] at H
    have c4b0 : (a0_0 == 1) = false := beq_eq_false_iff_ne.mpr c4
    have c4b1 : (a0_0 != 1) = true := bne_iff_ne.mpr c4
    by_cases c11 : a0_0 = 3
    · rw [if_pos c11] at H
      have c11b0 : (a0_0 == 3) = true := beq_iff_eq.mpr c11
      have c11b1 : (a0_0 != 3) = false := bne_eq_false_iff_eq.mpr c11
      clear c11
      by_cases c12 : 2 + a0_1.size ≤ 9223372036854775807
      · rw [if_pos c12] at H
        have c12b0 := eq_true c12
        have c12b1 : decide (2 + a0_1.size ≤ 9223372036854775807) = true := decide_eq_true c12
        try have c12b2 : (9223372036854775807 < 2 + a0_1.size) = False := eq_false (Nat.not_lt.2 c12)
        simp only [Option.some.injEq, Prod.mk.injEq] at H
        obtain ⟨rfl, rfl⟩ := H
        go_enter Tryd.func16, Tryd.ntmps16
        go_wp2_with (first | ((with_reducible refine gate_dst (N := 1) rfl ?_); refine box_event ?hg (N := 1) ?hd (cs := #[.int .i64 a0_0, .string a0_1, .string a0_2, .string a0_3]) (t := 43) ?hr ?_; (case hd => rfl); (case hg => rfl); (case hr => (go_simp; done)); intro gb160 hg w13 hbox hb; have n0_ := Aside0.mk (below_step (by repeat ((with_reducible exact HB.out))) hb); have n1_ := Aside0.mk (hbox); have n2_ := Aside0.mk ((by rw [hg]; exact (below_size (by repeat ((with_reducible exact HB.out)))) : w.heap.size ≤ gb160)); have n3_ := Aside0.mk ((by rw [hg]; exact (below_size (by repeat ((with_reducible exact HB.out)))) : w.heap.size ≤ gb160)); clear HB; have HB := n0_; have BK160 := n1_; have GW160 := n2_; have GE160 := n3_; clear n0_ n1_ n2_ n3_; clear hb hbox hg; have hcz14_0 : w13.cell? ⟨gb160, 0, none⟩ = some (.int .i64 a0_0) := (blk_cell BK160.out 0).trans rfl; have hcz14_1 : w13.cell? ⟨gb160, 1, none⟩ = some (.string a0_1) := (blk_cell BK160.out 1).trans rfl; have hcz14_2 : w13.cell? ⟨gb160, 2, none⟩ = some (.string a0_2) := (blk_cell BK160.out 2).trans rfl; have hcz14_3 : w13.cell? ⟨gb160, 3, none⟩ = some (.string a0_3) := (blk_cell BK160.out 3).trans rfl; have hfz14_0 := blk_frozen BK160.out 0; have hfz14_1 := blk_frozen BK160.out 1; have hfz14_2 := blk_frozen BK160.out 2; have hfz14_3 := blk_frozen BK160.out 3) | ((with_reducible refine gate_callee (f := 31) rfl ?_); refine goesL_ (some 7) rfl rfl Tryd.func31 (by kernel_rfl) rfl #[.agg #[.int .i64 a0_0, .string a0_1, .string a0_2, .string a0_3]] rfl (by (try simp only [List.map_toArray, List.map_cons, List.map_nil]); rfl) ?_; (with_reducible refine (term_Check.calls k a0_0 a0_1 a0_2 a0_3 t161 _ A2.out).mono ?_); rintro e w15 ⟨rfl, hb⟩; refine ⟨_, rfl, ?_⟩; have n0_ := Aside0.mk (blk_below (g := gb160) (o := .cells #[.int .i64 a0_0, .string a0_1, .string a0_2, .string a0_3] 43 (0, 0)) (by (with_reducible repeat (fail)); exact BK160.out) hb); have n1_ := Aside0.mk (below_step (by repeat ((with_reducible exact HB.out))) hb); clear BK160; clear HB; have BK160 := n0_; have HB := n1_; clear n0_ n1_; (try clear hb); have hcz16_0 : w15.cell? ⟨gb160, 0, none⟩ = some (.int .i64 a0_0) := (blk_cell BK160.out 0).trans rfl; have hcz16_1 : w15.cell? ⟨gb160, 1, none⟩ = some (.string a0_1) := (blk_cell BK160.out 1).trans rfl; have hcz16_2 : w15.cell? ⟨gb160, 2, none⟩ = some (.string a0_2) := (blk_cell BK160.out 2).trans rfl; have hcz16_3 : w15.cell? ⟨gb160, 3, none⟩ = some (.string a0_3) := (blk_cell BK160.out 3).trans rfl; have hfz16_0 := blk_frozen BK160.out 0; have hfz16_1 := blk_frozen BK160.out 1; have hfz16_2 := blk_frozen BK160.out 2; have hfz16_3 := blk_frozen BK160.out 3))
        go_ret2
        exact ⟨by rfl, by repeat ((with_reducible exact HB.out))⟩
      rw [if_neg c12] at H
      exact absurd H (by simp)
    rw [if_neg c11] at H
    have c11b0 : (a0_0 == 3) = false := beq_eq_false_iff_ne.mpr c11
    have c11b1 : (a0_0 != 3) = true := bne_iff_ne.mpr c11
    by_cases c17 : a0_0 = 4
    · rw [if_pos c17] at H
      have c17b0 : (a0_0 == 4) = true := beq_iff_eq.mpr c17
      have c17b1 : (a0_0 != 4) = false := bne_eq_false_iff_eq.mpr c17
      clear c17
      by_cases c18 : 1 + a0_1.size ≤ 9223372036854775807
      · rw [if_pos c18] at H
        have c18b0 := eq_true c18
        have c18b1 : decide (1 + a0_1.size ≤ 9223372036854775807) = true := decide_eq_true c18
        try have c18b2 : (9223372036854775807 < 1 + a0_1.size) = False := eq_false (Nat.not_lt.2 c18)
        simp only [Option.some.injEq, Prod.mk.injEq] at H
        obtain ⟨rfl, rfl⟩ := H
        go_enter Tryd.func16, Tryd.ntmps16
        go_wp2_with (first | ((with_reducible refine gate_dst (N := 1) rfl ?_); refine box_event ?hg (N := 1) ?hd (cs := #[.int .i64 a0_0, .string a0_1, .string a0_2, .string a0_3]) (t := 43) ?hr ?_; (case hd => rfl); (case hg => rfl); (case hr => (go_simp; done)); intro gb160 hg w19 hbox hb; have n0_ := Aside0.mk (below_step (by repeat ((with_reducible exact HB.out))) hb); have n1_ := Aside0.mk (hbox); have n2_ := Aside0.mk ((by rw [hg]; exact (below_size (by repeat ((with_reducible exact HB.out)))) : w.heap.size ≤ gb160)); have n3_ := Aside0.mk ((by rw [hg]; exact (below_size (by repeat ((with_reducible exact HB.out)))) : w.heap.size ≤ gb160)); clear HB; have HB := n0_; have BK160 := n1_; have GW160 := n2_; have GE160 := n3_; clear n0_ n1_ n2_ n3_; clear hb hbox hg; have hcz20_0 : w19.cell? ⟨gb160, 0, none⟩ = some (.int .i64 a0_0) := (blk_cell BK160.out 0).trans rfl; have hcz20_1 : w19.cell? ⟨gb160, 1, none⟩ = some (.string a0_1) := (blk_cell BK160.out 1).trans rfl; have hcz20_2 : w19.cell? ⟨gb160, 2, none⟩ = some (.string a0_2) := (blk_cell BK160.out 2).trans rfl; have hcz20_3 : w19.cell? ⟨gb160, 3, none⟩ = some (.string a0_3) := (blk_cell BK160.out 3).trans rfl; have hfz20_0 := blk_frozen BK160.out 0; have hfz20_1 := blk_frozen BK160.out 1; have hfz20_2 := blk_frozen BK160.out 2; have hfz20_3 := blk_frozen BK160.out 3) | ((with_reducible refine gate_callee (f := 31) rfl ?_); refine goesL_ (some 7) rfl rfl Tryd.func31 (by kernel_rfl) rfl #[.agg #[.int .i64 a0_0, .string a0_1, .string a0_2, .string a0_3]] rfl (by (try simp only [List.map_toArray, List.map_cons, List.map_nil]); rfl) ?_; (with_reducible refine (term_Check.calls k a0_0 a0_1 a0_2 a0_3 t161 _ A2.out).mono ?_); rintro e w21 ⟨rfl, hb⟩; refine ⟨_, rfl, ?_⟩; have n0_ := Aside0.mk (blk_below (g := gb160) (o := .cells #[.int .i64 a0_0, .string a0_1, .string a0_2, .string a0_3] 43 (0, 0)) (by (with_reducible repeat (fail)); exact BK160.out) hb); have n1_ := Aside0.mk (below_step (by repeat ((with_reducible exact HB.out))) hb); clear BK160; clear HB; have BK160 := n0_; have HB := n1_; clear n0_ n1_; (try clear hb); have hcz22_0 : w21.cell? ⟨gb160, 0, none⟩ = some (.int .i64 a0_0) := (blk_cell BK160.out 0).trans rfl; have hcz22_1 : w21.cell? ⟨gb160, 1, none⟩ = some (.string a0_1) := (blk_cell BK160.out 1).trans rfl; have hcz22_2 : w21.cell? ⟨gb160, 2, none⟩ = some (.string a0_2) := (blk_cell BK160.out 2).trans rfl; have hcz22_3 : w21.cell? ⟨gb160, 3, none⟩ = some (.string a0_3) := (blk_cell BK160.out 3).trans rfl; have hfz22_0 := blk_frozen BK160.out 0; have hfz22_1 := blk_frozen BK160.out 1; have hfz22_2 := blk_frozen BK160.out 2; have hfz22_3 := blk_frozen BK160.out 3))
        go_ret2
        exact ⟨by rfl, by repeat ((with_reducible exact HB.out))⟩
      rw [if_neg c18] at H
      exact absurd H (by simp)
    rw [if_neg c17] at H
    have c17b0 : (a0_0 == 4) = false := beq_eq_false_iff_ne.mpr c17
    have c17b1 : (a0_0 != 4) = true := bne_iff_ne.mpr c17
    by_cases c23 : a0_0 = 2
    · rw [if_pos c23] at H
      have c23b0 : (a0_0 == 2) = true := beq_iff_eq.mpr c23
      have c23b1 : (a0_0 != 2) = false := bne_eq_false_iff_eq.mpr c23
      clear c23
      replace H := Option.bind_eq_some_iff.mp H
      obtain ⟨t162, A240, H⟩ := H
      replace H : (if a0_2.toList = ([] : List UInt8) then (if a0_3.toList = ([] : List UInt8) then (some (t162, 0)) else (if 1 + a0_3.size ≤ 9223372036854775807 then (if t162.size + ((⟨#[64]⟩ : ByteArray) ++ a0_3).size ≤ 9223372036854775807 then (some (t162 ++ ((⟨#[64]⟩ : ByteArray) ++ a0_3), 0)) else (none)) else (none))) else (if 3 + a0_2.size ≤ 9223372036854775807 then (if ((⟨#[94, 94, 60]⟩ : ByteArray) ++ a0_2).size + 1 ≤ 9223372036854775807 then (if t162.size + (((⟨#[94, 94, 60]⟩ : ByteArray) ++ a0_2) ++ (⟨#[62]⟩ : ByteArray)).size ≤ 9223372036854775807 then (if a0_3.toList = ([] : List UInt8) then (some (t162 ++ (((⟨#[94, 94, 60]⟩ : ByteArray) ++ a0_2) ++ (⟨#[62]⟩ : ByteArray)), 0)) else (if 1 + a0_3.size ≤ 9223372036854775807 then (if (t162 ++ (((⟨#[94, 94, 60]⟩ : ByteArray) ++ a0_2) ++ (⟨#[62]⟩ : ByteArray))).size + ((⟨#[64]⟩ : ByteArray) ++ a0_3).size ≤ 9223372036854775807 then (some ((t162 ++ (((⟨#[94, 94, 60]⟩ : ByteArray) ++ a0_2) ++ (⟨#[62]⟩ : ByteArray))) ++ ((⟨#[64]⟩ : ByteArray) ++ a0_3), 0)) else (none)) else (none))) else (none)) else (none)) else (none))) = some (r1, r2) := H
      have A24 := Aside0.mk A240
      clear A240
      by_cases c25 : a0_2.toList = ([] : List UInt8)
      · rw [if_pos c25] at H
        have c25b0 : (a0_2.toList == ([] : List UInt8)) = true := beq_iff_eq.mpr c25
        (try (have c25b0e : a0_2.toList.isEmpty = true := by simpa using c25))
        (try (have c25b0f : (!a0_2.toList.isEmpty) = false := by simpa using c25))
        have c25b1 : (a0_2.toList != ([] : List UInt8)) = false := bne_eq_false_iff_eq.mpr c25
        clear c25
        by_cases c26 : a0_3.toList = ([] : List UInt8)
        · rw [if_pos c26] at H
          have c26b0 : (a0_3.toList == ([] : List UInt8)) = true := beq_iff_eq.mpr c26
          (try (have c26b0e : a0_3.toList.isEmpty = true := by simpa using c26))
          (try (have c26b0f : (!a0_3.toList.isEmpty) = false := by simpa using c26))
          have c26b1 : (a0_3.toList != ([] : List UInt8)) = false := bne_eq_false_iff_eq.mpr c26
          clear c26
          simp only [Option.some.injEq, Prod.mk.injEq] at H
          obtain ⟨rfl, rfl⟩ := H
          go_enter Tryd.func16, Tryd.ntmps16
          go_wp2_with (first | ((with_reducible refine gate_dst (N := 1) rfl ?_); refine box_event ?hg (N := 1) ?hd (cs := #[.int .i64 a0_0, .string a0_1, .string a0_2, .string a0_3]) (t := 43) ?hr ?_; (case hd => rfl); (case hg => rfl); (case hr => (go_simp; done)); intro gb160 hg w27 hbox hb; have n0_ := Aside0.mk (below_step (by repeat ((with_reducible exact HB.out))) hb); have n1_ := Aside0.mk (hbox); have n2_ := Aside0.mk ((by rw [hg]; exact (below_size (by repeat ((with_reducible exact HB.out)))) : w.heap.size ≤ gb160)); have n3_ := Aside0.mk ((by rw [hg]; exact (below_size (by repeat ((with_reducible exact HB.out)))) : w.heap.size ≤ gb160)); clear HB; have HB := n0_; have BK160 := n1_; have GW160 := n2_; have GE160 := n3_; clear n0_ n1_ n2_ n3_; clear hb hbox hg; have hcz28_0 : w27.cell? ⟨gb160, 0, none⟩ = some (.int .i64 a0_0) := (blk_cell BK160.out 0).trans rfl; have hcz28_1 : w27.cell? ⟨gb160, 1, none⟩ = some (.string a0_1) := (blk_cell BK160.out 1).trans rfl; have hcz28_2 : w27.cell? ⟨gb160, 2, none⟩ = some (.string a0_2) := (blk_cell BK160.out 2).trans rfl; have hcz28_3 : w27.cell? ⟨gb160, 3, none⟩ = some (.string a0_3) := (blk_cell BK160.out 3).trans rfl; have hfz28_0 := blk_frozen BK160.out 0; have hfz28_1 := blk_frozen BK160.out 1; have hfz28_2 := blk_frozen BK160.out 2; have hfz28_3 := blk_frozen BK160.out 3) | ((with_reducible refine gate_callee (f := 31) rfl ?_); refine goesL_ (some 7) rfl rfl Tryd.func31 (by kernel_rfl) rfl #[.agg #[.int .i64 a0_0, .string a0_1, .string a0_2, .string a0_3]] rfl (by (try simp only [List.map_toArray, List.map_cons, List.map_nil]); rfl) ?_; (with_reducible refine (term_Check.calls k a0_0 a0_1 a0_2 a0_3 t161 _ A2.out).mono ?_); rintro e w29 ⟨rfl, hb⟩; refine ⟨_, rfl, ?_⟩; have n0_ := Aside0.mk (blk_below (g := gb160) (o := .cells #[.int .i64 a0_0, .string a0_1, .string a0_2, .string a0_3] 43 (0, 0)) (by (with_reducible repeat (fail)); exact BK160.out) hb); have n1_ := Aside0.mk (below_step (by repeat ((with_reducible exact HB.out))) hb); clear BK160; clear HB; have BK160 := n0_; have HB := n1_; clear n0_ n1_; (try clear hb); have hcz30_0 : w29.cell? ⟨gb160, 0, none⟩ = some (.int .i64 a0_0) := (blk_cell BK160.out 0).trans rfl; have hcz30_1 : w29.cell? ⟨gb160, 1, none⟩ = some (.string a0_1) := (blk_cell BK160.out 1).trans rfl; have hcz30_2 : w29.cell? ⟨gb160, 2, none⟩ = some (.string a0_2) := (blk_cell BK160.out 2).trans rfl; have hcz30_3 : w29.cell? ⟨gb160, 3, none⟩ = some (.string a0_3) := (blk_cell BK160.out 3).trans rfl; have hfz30_0 := blk_frozen BK160.out 0; have hfz30_1 := blk_frozen BK160.out 1; have hfz30_2 := blk_frozen BK160.out 2; have hfz30_3 := blk_frozen BK160.out 3) | ((with_reducible refine gate_callee (f := 32) rfl ?_); refine goesL_ (some 33) rfl rfl Tryd.func32 (by kernel_rfl) rfl #[.string a0_1] rfl (by (try simp only [List.map_toArray, List.map_cons, List.map_nil]); rfl) ?_; (with_reducible refine (term_quoted.calls k a0_1 t162 _ A24.out).mono ?_); rintro e w31 ⟨rfl, hb⟩; refine ⟨_, rfl, ?_⟩; have n0_ := Aside0.mk (blk_below (g := gb160) (o := .cells #[.int .i64 a0_0, .string a0_1, .string a0_2, .string a0_3] 43 (0, 0)) (by (with_reducible repeat (fail)); exact BK160.out) hb); have n1_ := Aside0.mk (below_step (by repeat ((with_reducible exact HB.out))) hb); clear BK160; clear HB; have BK160 := n0_; have HB := n1_; clear n0_ n1_; (try clear hb); have hcz32_0 : w31.cell? ⟨gb160, 0, none⟩ = some (.int .i64 a0_0) := (blk_cell BK160.out 0).trans rfl; have hcz32_1 : w31.cell? ⟨gb160, 1, none⟩ = some (.string a0_1) := (blk_cell BK160.out 1).trans rfl; have hcz32_2 : w31.cell? ⟨gb160, 2, none⟩ = some (.string a0_2) := (blk_cell BK160.out 2).trans rfl; have hcz32_3 : w31.cell? ⟨gb160, 3, none⟩ = some (.string a0_3) := (blk_cell BK160.out 3).trans rfl; have hfz32_0 := blk_frozen BK160.out 0; have hfz32_1 := blk_frozen BK160.out 1; have hfz32_2 := blk_frozen BK160.out 2; have hfz32_3 := blk_frozen BK160.out 3))
          go_ret2
          exact ⟨by rfl, by repeat ((with_reducible exact HB.out))⟩
        rw [if_neg c26] at H
        have c26b0 : (a0_3.toList == ([] : List UInt8)) = false := beq_eq_false_iff_ne.mpr c26
        (try (have c26b0e : a0_3.toList.isEmpty = false := by simpa using c26))
        (try (have c26b0f : (!a0_3.toList.isEmpty) = true := by simpa using c26))
        have c26b1 : (a0_3.toList != ([] : List UInt8)) = true := bne_iff_ne.mpr c26
        by_cases c33 : 1 + a0_3.size ≤ 9223372036854775807
        · rw [if_pos c33] at H
          have c33b0 := eq_true c33
          have c33b1 : decide (1 + a0_3.size ≤ 9223372036854775807) = true := decide_eq_true c33
          try have c33b2 : (9223372036854775807 < 1 + a0_3.size) = False := eq_false (Nat.not_lt.2 c33)
          by_cases c34 : t162.size + ((⟨#[64]⟩ : ByteArray) ++ a0_3).size ≤ 9223372036854775807
          · rw [if_pos c34] at H
            have c34b0 := eq_true c34
            have c34b1 : decide (t162.size + ((⟨#[64]⟩ : ByteArray) ++ a0_3).size ≤ 9223372036854775807) = true := decide_eq_true c34
            try have c34b2 : (9223372036854775807 < t162.size + ((⟨#[64]⟩ : ByteArray) ++ a0_3).size) = False := eq_false (Nat.not_lt.2 c34)
            try have c34b3 : (9223372036854775807 < t162.size + (1 + a0_3.size)) = False := eq_false (Nat.not_lt.2 (by have h_ := c34; simp only [ByteArray.size_append] at h_; exact h_))
            simp only [Option.some.injEq, Prod.mk.injEq] at H
            obtain ⟨rfl, rfl⟩ := H
            go_enter Tryd.func16, Tryd.ntmps16
            go_wp2_with (first | ((with_reducible refine gate_dst (N := 1) rfl ?_); refine box_event ?hg (N := 1) ?hd (cs := #[.int .i64 a0_0, .string a0_1, .string a0_2, .string a0_3]) (t := 43) ?hr ?_; (case hd => rfl); (case hg => rfl); (case hr => (go_simp; done)); intro gb160 hg w35 hbox hb; have n0_ := Aside0.mk (below_step (by repeat ((with_reducible exact HB.out))) hb); have n1_ := Aside0.mk (hbox); have n2_ := Aside0.mk ((by rw [hg]; exact (below_size (by repeat ((with_reducible exact HB.out)))) : w.heap.size ≤ gb160)); have n3_ := Aside0.mk ((by rw [hg]; exact (below_size (by repeat ((with_reducible exact HB.out)))) : w.heap.size ≤ gb160)); clear HB; have HB := n0_; have BK160 := n1_; have GW160 := n2_; have GE160 := n3_; clear n0_ n1_ n2_ n3_; clear hb hbox hg; have hcz36_0 : w35.cell? ⟨gb160, 0, none⟩ = some (.int .i64 a0_0) := (blk_cell BK160.out 0).trans rfl; have hcz36_1 : w35.cell? ⟨gb160, 1, none⟩ = some (.string a0_1) := (blk_cell BK160.out 1).trans rfl; have hcz36_2 : w35.cell? ⟨gb160, 2, none⟩ = some (.string a0_2) := (blk_cell BK160.out 2).trans rfl; have hcz36_3 : w35.cell? ⟨gb160, 3, none⟩ = some (.string a0_3) := (blk_cell BK160.out 3).trans rfl; have hfz36_0 := blk_frozen BK160.out 0; have hfz36_1 := blk_frozen BK160.out 1; have hfz36_2 := blk_frozen BK160.out 2; have hfz36_3 := blk_frozen BK160.out 3) | ((with_reducible refine gate_callee (f := 31) rfl ?_); refine goesL_ (some 7) rfl rfl Tryd.func31 (by kernel_rfl) rfl #[.agg #[.int .i64 a0_0, .string a0_1, .string a0_2, .string a0_3]] rfl (by (try simp only [List.map_toArray, List.map_cons, List.map_nil]); rfl) ?_; (with_reducible refine (term_Check.calls k a0_0 a0_1 a0_2 a0_3 t161 _ A2.out).mono ?_); rintro e w37 ⟨rfl, hb⟩; refine ⟨_, rfl, ?_⟩; have n0_ := Aside0.mk (blk_below (g := gb160) (o := .cells #[.int .i64 a0_0, .string a0_1, .string a0_2, .string a0_3] 43 (0, 0)) (by (with_reducible repeat (fail)); exact BK160.out) hb); have n1_ := Aside0.mk (below_step (by repeat ((with_reducible exact HB.out))) hb); clear BK160; clear HB; have BK160 := n0_; have HB := n1_; clear n0_ n1_; (try clear hb); have hcz38_0 : w37.cell? ⟨gb160, 0, none⟩ = some (.int .i64 a0_0) := (blk_cell BK160.out 0).trans rfl; have hcz38_1 : w37.cell? ⟨gb160, 1, none⟩ = some (.string a0_1) := (blk_cell BK160.out 1).trans rfl; have hcz38_2 : w37.cell? ⟨gb160, 2, none⟩ = some (.string a0_2) := (blk_cell BK160.out 2).trans rfl; have hcz38_3 : w37.cell? ⟨gb160, 3, none⟩ = some (.string a0_3) := (blk_cell BK160.out 3).trans rfl; have hfz38_0 := blk_frozen BK160.out 0; have hfz38_1 := blk_frozen BK160.out 1; have hfz38_2 := blk_frozen BK160.out 2; have hfz38_3 := blk_frozen BK160.out 3) | ((with_reducible refine gate_callee (f := 32) rfl ?_); refine goesL_ (some 33) rfl rfl Tryd.func32 (by kernel_rfl) rfl #[.string a0_1] rfl (by (try simp only [List.map_toArray, List.map_cons, List.map_nil]); rfl) ?_; (with_reducible refine (term_quoted.calls k a0_1 t162 _ A24.out).mono ?_); rintro e w39 ⟨rfl, hb⟩; refine ⟨_, rfl, ?_⟩; have n0_ := Aside0.mk (blk_below (g := gb160) (o := .cells #[.int .i64 a0_0, .string a0_1, .string a0_2, .string a0_3] 43 (0, 0)) (by (with_reducible repeat (fail)); exact BK160.out) hb); have n1_ := Aside0.mk (below_step (by repeat ((with_reducible exact HB.out))) hb); clear BK160; clear HB; have BK160 := n0_; have HB := n1_; clear n0_ n1_; (try clear hb); have hcz40_0 : w39.cell? ⟨gb160, 0, none⟩ = some (.int .i64 a0_0) := (blk_cell BK160.out 0).trans rfl; have hcz40_1 : w39.cell? ⟨gb160, 1, none⟩ = some (.string a0_1) := (blk_cell BK160.out 1).trans rfl; have hcz40_2 : w39.cell? ⟨gb160, 2, none⟩ = some (.string a0_2) := (blk_cell BK160.out 2).trans rfl; have hcz40_3 : w39.cell? ⟨gb160, 3, none⟩ = some (.string a0_3) := (blk_cell BK160.out 3).trans rfl; have hfz40_0 := blk_frozen BK160.out 0; have hfz40_1 := blk_frozen BK160.out 1; have hfz40_2 := blk_frozen BK160.out 2; have hfz40_3 := blk_frozen BK160.out 3))
            go_ret2
            exact ⟨by rfl, by repeat ((with_reducible exact HB.out))⟩
          rw [if_neg c34] at H
          exact absurd H (by simp)
        rw [if_neg c33] at H
        exact absurd H (by simp)
      rw [if_neg c25] at H
      have c25b0 : (a0_2.toList == ([] : List UInt8)) = false := beq_eq_false_iff_ne.mpr c25
      (try (have c25b0e : a0_2.toList.isEmpty = false := by simpa using c25))
      (try (have c25b0f : (!a0_2.toList.isEmpty) = true := by simpa using c25))
      have c25b1 : (a0_2.toList != ([] : List UInt8)) = true := bne_iff_ne.mpr c25
      by_cases c41 : 3 + a0_2.size ≤ 9223372036854775807
      · rw [if_pos c41] at H
        have c41b0 := eq_true c41
        have c41b1 : decide (3 + a0_2.size ≤ 9223372036854775807) = true := decide_eq_true c41
        try have c41b2 : (9223372036854775807 < 3 + a0_2.size) = False := eq_false (Nat.not_lt.2 c41)
        by_cases c42 : ((⟨#[94, 94, 60]⟩ : ByteArray) ++ a0_2).size + 1 ≤ 9223372036854775807
        · rw [if_pos c42] at H
          have c42b0 := eq_true c42
          have c42b1 : decide (((⟨#[94, 94, 60]⟩ : ByteArray) ++ a0_2).size + 1 ≤ 9223372036854775807) = true := decide_eq_true c42
          try have c42b2 : (9223372036854775807 < ((⟨#[94, 94, 60]⟩ : ByteArray) ++ a0_2).size + 1) = False := eq_false (Nat.not_lt.2 c42)
          try have c42b3 : (9223372036854775807 < (3 + a0_2.size) + 1) = False := eq_false (Nat.not_lt.2 (by have h_ := c42; simp only [ByteArray.size_append] at h_; exact h_))
          by_cases c43 : t162.size + (((⟨#[94, 94, 60]⟩ : ByteArray) ++ a0_2) ++ (⟨#[62]⟩ : ByteArray)).size ≤ 9223372036854775807
          · rw [if_pos c43] at H
            have c43b0 := eq_true c43
            have c43b1 : decide (t162.size + (((⟨#[94, 94, 60]⟩ : ByteArray) ++ a0_2) ++ (⟨#[62]⟩ : ByteArray)).size ≤ 9223372036854775807) = true := decide_eq_true c43
            try have c43b2 : (9223372036854775807 < t162.size + (((⟨#[94, 94, 60]⟩ : ByteArray) ++ a0_2) ++ (⟨#[62]⟩ : ByteArray)).size) = False := eq_false (Nat.not_lt.2 c43)
            try have c43b3 : (9223372036854775807 < t162.size + ((3 + a0_2.size) + 1)) = False := eq_false (Nat.not_lt.2 (by have h_ := c43; simp only [ByteArray.size_append] at h_; exact h_))
            by_cases c44 : a0_3.toList = ([] : List UInt8)
            · rw [if_pos c44] at H
              have c44b0 : (a0_3.toList == ([] : List UInt8)) = true := beq_iff_eq.mpr c44
              (try (have c44b0e : a0_3.toList.isEmpty = true := by simpa using c44))
              (try (have c44b0f : (!a0_3.toList.isEmpty) = false := by simpa using c44))
              have c44b1 : (a0_3.toList != ([] : List UInt8)) = false := bne_eq_false_iff_eq.mpr c44
              clear c44
              simp only [Option.some.injEq, Prod.mk.injEq] at H
              obtain ⟨rfl, rfl⟩ := H
              go_enter Tryd.func16, Tryd.ntmps16
              go_wp2_with (first | ((with_reducible refine gate_dst (N := 1) rfl ?_); refine box_event ?hg (N := 1) ?hd (cs := #[.int .i64 a0_0, .string a0_1, .string a0_2, .string a0_3]) (t := 43) ?hr ?_; (case hd => rfl); (case hg => rfl); (case hr => (go_simp; done)); intro gb160 hg w45 hbox hb; have n0_ := Aside0.mk (below_step (by repeat ((with_reducible exact HB.out))) hb); have n1_ := Aside0.mk (hbox); have n2_ := Aside0.mk ((by rw [hg]; exact (below_size (by repeat ((with_reducible exact HB.out)))) : w.heap.size ≤ gb160)); have n3_ := Aside0.mk ((by rw [hg]; exact (below_size (by repeat ((with_reducible exact HB.out)))) : w.heap.size ≤ gb160)); clear HB; have HB := n0_; have BK160 := n1_; have GW160 := n2_; have GE160 := n3_; clear n0_ n1_ n2_ n3_; clear hb hbox hg; have hcz46_0 : w45.cell? ⟨gb160, 0, none⟩ = some (.int .i64 a0_0) := (blk_cell BK160.out 0).trans rfl; have hcz46_1 : w45.cell? ⟨gb160, 1, none⟩ = some (.string a0_1) := (blk_cell BK160.out 1).trans rfl; have hcz46_2 : w45.cell? ⟨gb160, 2, none⟩ = some (.string a0_2) := (blk_cell BK160.out 2).trans rfl; have hcz46_3 : w45.cell? ⟨gb160, 3, none⟩ = some (.string a0_3) := (blk_cell BK160.out 3).trans rfl; have hfz46_0 := blk_frozen BK160.out 0; have hfz46_1 := blk_frozen BK160.out 1; have hfz46_2 := blk_frozen BK160.out 2; have hfz46_3 := blk_frozen BK160.out 3) | ((with_reducible refine gate_callee (f := 31) rfl ?_); refine goesL_ (some 7) rfl rfl Tryd.func31 (by kernel_rfl) rfl #[.agg #[.int .i64 a0_0, .string a0_1, .string a0_2, .string a0_3]] rfl (by (try simp only [List.map_toArray, List.map_cons, List.map_nil]); rfl) ?_; (with_reducible refine (term_Check.calls k a0_0 a0_1 a0_2 a0_3 t161 _ A2.out).mono ?_); rintro e w47 ⟨rfl, hb⟩; refine ⟨_, rfl, ?_⟩; have n0_ := Aside0.mk (blk_below (g := gb160) (o := .cells #[.int .i64 a0_0, .string a0_1, .string a0_2, .string a0_3] 43 (0, 0)) (by (with_reducible repeat (fail)); exact BK160.out) hb); have n1_ := Aside0.mk (below_step (by repeat ((with_reducible exact HB.out))) hb); clear BK160; clear HB; have BK160 := n0_; have HB := n1_; clear n0_ n1_; (try clear hb); have hcz48_0 : w47.cell? ⟨gb160, 0, none⟩ = some (.int .i64 a0_0) := (blk_cell BK160.out 0).trans rfl; have hcz48_1 : w47.cell? ⟨gb160, 1, none⟩ = some (.string a0_1) := (blk_cell BK160.out 1).trans rfl; have hcz48_2 : w47.cell? ⟨gb160, 2, none⟩ = some (.string a0_2) := (blk_cell BK160.out 2).trans rfl; have hcz48_3 : w47.cell? ⟨gb160, 3, none⟩ = some (.string a0_3) := (blk_cell BK160.out 3).trans rfl; have hfz48_0 := blk_frozen BK160.out 0; have hfz48_1 := blk_frozen BK160.out 1; have hfz48_2 := blk_frozen BK160.out 2; have hfz48_3 := blk_frozen BK160.out 3) | ((with_reducible refine gate_callee (f := 32) rfl ?_); refine goesL_ (some 33) rfl rfl Tryd.func32 (by kernel_rfl) rfl #[.string a0_1] rfl (by (try simp only [List.map_toArray, List.map_cons, List.map_nil]); rfl) ?_; (with_reducible refine (term_quoted.calls k a0_1 t162 _ A24.out).mono ?_); rintro e w49 ⟨rfl, hb⟩; refine ⟨_, rfl, ?_⟩; have n0_ := Aside0.mk (blk_below (g := gb160) (o := .cells #[.int .i64 a0_0, .string a0_1, .string a0_2, .string a0_3] 43 (0, 0)) (by (with_reducible repeat (fail)); exact BK160.out) hb); have n1_ := Aside0.mk (below_step (by repeat ((with_reducible exact HB.out))) hb); clear BK160; clear HB; have BK160 := n0_; have HB := n1_; clear n0_ n1_; (try clear hb); have hcz50_0 : w49.cell? ⟨gb160, 0, none⟩ = some (.int .i64 a0_0) := (blk_cell BK160.out 0).trans rfl; have hcz50_1 : w49.cell? ⟨gb160, 1, none⟩ = some (.string a0_1) := (blk_cell BK160.out 1).trans rfl; have hcz50_2 : w49.cell? ⟨gb160, 2, none⟩ = some (.string a0_2) := (blk_cell BK160.out 2).trans rfl; have hcz50_3 : w49.cell? ⟨gb160, 3, none⟩ = some (.string a0_3) := (blk_cell BK160.out 3).trans rfl; have hfz50_0 := blk_frozen BK160.out 0; have hfz50_1 := blk_frozen BK160.out 1; have hfz50_2 := blk_frozen BK160.out 2; have hfz50_3 := blk_frozen BK160.out 3))
              go_ret2
              exact ⟨by rfl, by repeat ((with_reducible exact HB.out))⟩
            rw [if_neg c44] at H
            have c44b0 : (a0_3.toList == ([] : List UInt8)) = false := beq_eq_false_iff_ne.mpr c44
            (try (have c44b0e : a0_3.toList.isEmpty = false := by simpa using c44))
            (try (have c44b0f : (!a0_3.toList.isEmpty) = true := by simpa using c44))
            have c44b1 : (a0_3.toList != ([] : List UInt8)) = true := bne_iff_ne.mpr c44
            by_cases c51 : 1 + a0_3.size ≤ 9223372036854775807
            · rw [if_pos c51] at H
              have c51b0 := eq_true c51
              have c51b1 : decide (1 + a0_3.size ≤ 9223372036854775807) = true := decide_eq_true c51
              try have c51b2 : (9223372036854775807 < 1 + a0_3.size) = False := eq_false (Nat.not_lt.2 c51)
              by_cases c52 : (t162 ++ (((⟨#[94, 94, 60]⟩ : ByteArray) ++ a0_2) ++ (⟨#[62]⟩ : ByteArray))).size + ((⟨#[64]⟩ : ByteArray) ++ a0_3).size ≤ 9223372036854775807
              · rw [if_pos c52] at H
                have c52b0 := eq_true c52
                have c52b1 : decide ((t162 ++ (((⟨#[94, 94, 60]⟩ : ByteArray) ++ a0_2) ++ (⟨#[62]⟩ : ByteArray))).size + ((⟨#[64]⟩ : ByteArray) ++ a0_3).size ≤ 9223372036854775807) = true := decide_eq_true c52
                try have c52b2 : (9223372036854775807 < (t162 ++ (((⟨#[94, 94, 60]⟩ : ByteArray) ++ a0_2) ++ (⟨#[62]⟩ : ByteArray))).size + ((⟨#[64]⟩ : ByteArray) ++ a0_3).size) = False := eq_false (Nat.not_lt.2 c52)
                try have c52b3 : (9223372036854775807 < (t162.size + ((3 + a0_2.size) + 1)) + (1 + a0_3.size)) = False := eq_false (Nat.not_lt.2 (by have h_ := c52; simp only [ByteArray.size_append] at h_; exact h_))
                simp only [Option.some.injEq, Prod.mk.injEq] at H
                obtain ⟨rfl, rfl⟩ := H
                go_enter Tryd.func16, Tryd.ntmps16
                go_wp2_with (first | ((with_reducible refine gate_dst (N := 1) rfl ?_); refine box_event ?hg (N := 1) ?hd (cs := #[.int .i64 a0_0, .string a0_1, .string a0_2, .string a0_3]) (t := 43) ?hr ?_; (case hd => rfl); (case hg => rfl); (case hr => (go_simp; done)); intro gb160 hg w53 hbox hb; have n0_ := Aside0.mk (below_step (by repeat ((with_reducible exact HB.out))) hb); have n1_ := Aside0.mk (hbox); have n2_ := Aside0.mk ((by rw [hg]; exact (below_size (by repeat ((with_reducible exact HB.out)))) : w.heap.size ≤ gb160)); have n3_ := Aside0.mk ((by rw [hg]; exact (below_size (by repeat ((with_reducible exact HB.out)))) : w.heap.size ≤ gb160)); clear HB; have HB := n0_; have BK160 := n1_; have GW160 := n2_; have GE160 := n3_; clear n0_ n1_ n2_ n3_; clear hb hbox hg; have hcz54_0 : w53.cell? ⟨gb160, 0, none⟩ = some (.int .i64 a0_0) := (blk_cell BK160.out 0).trans rfl; have hcz54_1 : w53.cell? ⟨gb160, 1, none⟩ = some (.string a0_1) := (blk_cell BK160.out 1).trans rfl; have hcz54_2 : w53.cell? ⟨gb160, 2, none⟩ = some (.string a0_2) := (blk_cell BK160.out 2).trans rfl; have hcz54_3 : w53.cell? ⟨gb160, 3, none⟩ = some (.string a0_3) := (blk_cell BK160.out 3).trans rfl; have hfz54_0 := blk_frozen BK160.out 0; have hfz54_1 := blk_frozen BK160.out 1; have hfz54_2 := blk_frozen BK160.out 2; have hfz54_3 := blk_frozen BK160.out 3) | ((with_reducible refine gate_callee (f := 31) rfl ?_); refine goesL_ (some 7) rfl rfl Tryd.func31 (by kernel_rfl) rfl #[.agg #[.int .i64 a0_0, .string a0_1, .string a0_2, .string a0_3]] rfl (by (try simp only [List.map_toArray, List.map_cons, List.map_nil]); rfl) ?_; (with_reducible refine (term_Check.calls k a0_0 a0_1 a0_2 a0_3 t161 _ A2.out).mono ?_); rintro e w55 ⟨rfl, hb⟩; refine ⟨_, rfl, ?_⟩; have n0_ := Aside0.mk (blk_below (g := gb160) (o := .cells #[.int .i64 a0_0, .string a0_1, .string a0_2, .string a0_3] 43 (0, 0)) (by (with_reducible repeat (fail)); exact BK160.out) hb); have n1_ := Aside0.mk (below_step (by repeat ((with_reducible exact HB.out))) hb); clear BK160; clear HB; have BK160 := n0_; have HB := n1_; clear n0_ n1_; (try clear hb); have hcz56_0 : w55.cell? ⟨gb160, 0, none⟩ = some (.int .i64 a0_0) := (blk_cell BK160.out 0).trans rfl; have hcz56_1 : w55.cell? ⟨gb160, 1, none⟩ = some (.string a0_1) := (blk_cell BK160.out 1).trans rfl; have hcz56_2 : w55.cell? ⟨gb160, 2, none⟩ = some (.string a0_2) := (blk_cell BK160.out 2).trans rfl; have hcz56_3 : w55.cell? ⟨gb160, 3, none⟩ = some (.string a0_3) := (blk_cell BK160.out 3).trans rfl; have hfz56_0 := blk_frozen BK160.out 0; have hfz56_1 := blk_frozen BK160.out 1; have hfz56_2 := blk_frozen BK160.out 2; have hfz56_3 := blk_frozen BK160.out 3) | ((with_reducible refine gate_callee (f := 32) rfl ?_); refine goesL_ (some 33) rfl rfl Tryd.func32 (by kernel_rfl) rfl #[.string a0_1] rfl (by (try simp only [List.map_toArray, List.map_cons, List.map_nil]); rfl) ?_; (with_reducible refine (term_quoted.calls k a0_1 t162 _ A24.out).mono ?_); rintro e w57 ⟨rfl, hb⟩; refine ⟨_, rfl, ?_⟩; have n0_ := Aside0.mk (blk_below (g := gb160) (o := .cells #[.int .i64 a0_0, .string a0_1, .string a0_2, .string a0_3] 43 (0, 0)) (by (with_reducible repeat (fail)); exact BK160.out) hb); have n1_ := Aside0.mk (below_step (by repeat ((with_reducible exact HB.out))) hb); clear BK160; clear HB; have BK160 := n0_; have HB := n1_; clear n0_ n1_; (try clear hb); have hcz58_0 : w57.cell? ⟨gb160, 0, none⟩ = some (.int .i64 a0_0) := (blk_cell BK160.out 0).trans rfl; have hcz58_1 : w57.cell? ⟨gb160, 1, none⟩ = some (.string a0_1) := (blk_cell BK160.out 1).trans rfl; have hcz58_2 : w57.cell? ⟨gb160, 2, none⟩ = some (.string a0_2) := (blk_cell BK160.out 2).trans rfl; have hcz58_3 : w57.cell? ⟨gb160, 3, none⟩ = some (.string a0_3) := (blk_cell BK160.out 3).trans rfl; have hfz58_0 := blk_frozen BK160.out 0; have hfz58_1 := blk_frozen BK160.out 1; have hfz58_2 := blk_frozen BK160.out 2; have hfz58_3 := blk_frozen BK160.out 3))
                go_ret2
                exact ⟨by rfl, by repeat ((with_reducible exact HB.out))⟩
              rw [if_neg c52] at H
              exact absurd H (by simp)
            rw [if_neg c51] at H
            exact absurd H (by simp)
          rw [if_neg c43] at H
          exact absurd H (by simp)
        rw [if_neg c42] at H
        exact absurd H (by simp)
      rw [if_neg c41] at H
      exact absurd H (by simp)
    rw [if_neg c23] at H
    have c23b0 : (a0_0 == 2) = false := beq_eq_false_iff_ne.mpr c23
    have c23b1 : (a0_0 != 2) = true := bne_iff_ne.mpr c23
    simp only [Option.some.injEq, Prod.mk.injEq] at H
    obtain ⟨rfl, rfl⟩ := H
    go_enter Tryd.func16, Tryd.ntmps16
    go_wp2_with (first | ((with_reducible refine gate_dst (N := 1) rfl ?_); refine box_event ?hg (N := 1) ?hd (cs := #[.int .i64 a0_0, .string a0_1, .string a0_2, .string a0_3]) (t := 43) ?hr ?_; (case hd => rfl); (case hg => rfl); (case hr => (go_simp; done)); intro gb160 hg w59 hbox hb; have n0_ := Aside0.mk (below_step (by repeat ((with_reducible exact HB.out))) hb); have n1_ := Aside0.mk (hbox); have n2_ := Aside0.mk ((by rw [hg]; exact (below_size (by repeat ((with_reducible exact HB.out)))) : w.heap.size ≤ gb160)); have n3_ := Aside0.mk ((by rw [hg]; exact (below_size (by repeat ((with_reducible exact HB.out)))) : w.heap.size ≤ gb160)); clear HB; have HB := n0_; have BK160 := n1_; have GW160 := n2_; have GE160 := n3_; clear n0_ n1_ n2_ n3_; clear hb hbox hg; have hcz60_0 : w59.cell? ⟨gb160, 0, none⟩ = some (.int .i64 a0_0) := (blk_cell BK160.out 0).trans rfl; have hcz60_1 : w59.cell? ⟨gb160, 1, none⟩ = some (.string a0_1) := (blk_cell BK160.out 1).trans rfl; have hcz60_2 : w59.cell? ⟨gb160, 2, none⟩ = some (.string a0_2) := (blk_cell BK160.out 2).trans rfl; have hcz60_3 : w59.cell? ⟨gb160, 3, none⟩ = some (.string a0_3) := (blk_cell BK160.out 3).trans rfl; have hfz60_0 := blk_frozen BK160.out 0; have hfz60_1 := blk_frozen BK160.out 1; have hfz60_2 := blk_frozen BK160.out 2; have hfz60_3 := blk_frozen BK160.out 3) | ((with_reducible refine gate_callee (f := 31) rfl ?_); refine goesL_ (some 7) rfl rfl Tryd.func31 (by kernel_rfl) rfl #[.agg #[.int .i64 a0_0, .string a0_1, .string a0_2, .string a0_3]] rfl (by (try simp only [List.map_toArray, List.map_cons, List.map_nil]); rfl) ?_; (with_reducible refine (term_Check.calls k a0_0 a0_1 a0_2 a0_3 t161 _ A2.out).mono ?_); rintro e w61 ⟨rfl, hb⟩; refine ⟨_, rfl, ?_⟩; have n0_ := Aside0.mk (blk_below (g := gb160) (o := .cells #[.int .i64 a0_0, .string a0_1, .string a0_2, .string a0_3] 43 (0, 0)) (by (with_reducible repeat (fail)); exact BK160.out) hb); have n1_ := Aside0.mk (below_step (by repeat ((with_reducible exact HB.out))) hb); clear BK160; clear HB; have BK160 := n0_; have HB := n1_; clear n0_ n1_; (try clear hb); have hcz62_0 : w61.cell? ⟨gb160, 0, none⟩ = some (.int .i64 a0_0) := (blk_cell BK160.out 0).trans rfl; have hcz62_1 : w61.cell? ⟨gb160, 1, none⟩ = some (.string a0_1) := (blk_cell BK160.out 1).trans rfl; have hcz62_2 : w61.cell? ⟨gb160, 2, none⟩ = some (.string a0_2) := (blk_cell BK160.out 2).trans rfl; have hcz62_3 : w61.cell? ⟨gb160, 3, none⟩ = some (.string a0_3) := (blk_cell BK160.out 3).trans rfl; have hfz62_0 := blk_frozen BK160.out 0; have hfz62_1 := blk_frozen BK160.out 1; have hfz62_2 := blk_frozen BK160.out 2; have hfz62_3 := blk_frozen BK160.out 3))
    go_ret2
    exact ⟨by rfl, by repeat ((with_reducible exact HB.out))⟩
  rw [if_neg c3] at H
  have c3b0 : (t161 == 0) = false := beq_eq_false_iff_ne.mpr c3
  have c3b1 : (t161 != 0) = true := bne_iff_ne.mpr c3
  simp only [Option.some.injEq, Prod.mk.injEq] at H
  obtain ⟨rfl, rfl⟩ := H
  go_enter Tryd.func16, Tryd.ntmps16
  go_wp2_with (first | ((with_reducible refine gate_dst (N := 1) rfl ?_); refine box_event ?hg (N := 1) ?hd (cs := #[.int .i64 a0_0, .string a0_1, .string a0_2, .string a0_3]) (t := 43) ?hr ?_; (case hd => rfl); (case hg => rfl); (case hr => (go_simp; done)); intro gb160 hg w63 hbox hb; have n0_ := Aside0.mk (below_step (by repeat ((with_reducible exact HB.out))) hb); have n1_ := Aside0.mk (hbox); have n2_ := Aside0.mk ((by rw [hg]; exact (below_size (by repeat ((with_reducible exact HB.out)))) : w.heap.size ≤ gb160)); have n3_ := Aside0.mk ((by rw [hg]; exact (below_size (by repeat ((with_reducible exact HB.out)))) : w.heap.size ≤ gb160)); clear HB; have HB := n0_; have BK160 := n1_; have GW160 := n2_; have GE160 := n3_; clear n0_ n1_ n2_ n3_; clear hb hbox hg; have hcz64_0 : w63.cell? ⟨gb160, 0, none⟩ = some (.int .i64 a0_0) := (blk_cell BK160.out 0).trans rfl; have hcz64_1 : w63.cell? ⟨gb160, 1, none⟩ = some (.string a0_1) := (blk_cell BK160.out 1).trans rfl; have hcz64_2 : w63.cell? ⟨gb160, 2, none⟩ = some (.string a0_2) := (blk_cell BK160.out 2).trans rfl; have hcz64_3 : w63.cell? ⟨gb160, 3, none⟩ = some (.string a0_3) := (blk_cell BK160.out 3).trans rfl; have hfz64_0 := blk_frozen BK160.out 0; have hfz64_1 := blk_frozen BK160.out 1; have hfz64_2 := blk_frozen BK160.out 2; have hfz64_3 := blk_frozen BK160.out 3) | ((with_reducible refine gate_callee (f := 31) rfl ?_); refine goesL_ (some 7) rfl rfl Tryd.func31 (by kernel_rfl) rfl #[.agg #[.int .i64 a0_0, .string a0_1, .string a0_2, .string a0_3]] rfl (by (try simp only [List.map_toArray, List.map_cons, List.map_nil]); rfl) ?_; (with_reducible refine (term_Check.calls k a0_0 a0_1 a0_2 a0_3 t161 _ A2.out).mono ?_); rintro e w65 ⟨rfl, hb⟩; refine ⟨_, rfl, ?_⟩; have n0_ := Aside0.mk (blk_below (g := gb160) (o := .cells #[.int .i64 a0_0, .string a0_1, .string a0_2, .string a0_3] 43 (0, 0)) (by (with_reducible repeat (fail)); exact BK160.out) hb); have n1_ := Aside0.mk (below_step (by repeat ((with_reducible exact HB.out))) hb); clear BK160; clear HB; have BK160 := n0_; have HB := n1_; clear n0_ n1_; (try clear hb)))
  go_ret2
  exact ⟨by rfl, by repeat ((with_reducible exact HB.out))⟩
end Go.Proofs.YtgabadlneeffkaaDoor.S
