-- Written by lp.py: a program of this session's over the kit's printer. Not trusted: Lean checks it.
import Derived.Test.YtgabadlneeffkaaDoorLVx0
import Derived.Test.YtgabadlneeffkaaDoorLVx2
import Derived.Test.YtgabadlneeffkaaDoorLVx4
namespace Go.Proofs.YtgabadlneeffkaaDoor.S
open Go.RowKit Go.Proofs.YtgabadlneeffkaaDoorW.PrintWords Go.Proofs.YtgabadlneeffkaaDoorW.PrintLast Go.Proofs.YtgabadlneeffkaaDoorW.PrintMore
attribute [local go_sem] max2_int min2_int max_two min_two max_three min_three max_four min_four
set_option linter.unusedVariables false
set_option linter.unusedSimpArgs false
mutual
def table_Check.j0 : Nat → Bool → List ByteArray → List (List (S43)) → Option (Int)
  | 0, _, _, _ => none
  | k + 1, x18, x114000, x114001 => if x18 = true then (some 2) else (table_Check.l0 k x114000 (x114000.length : Int) 0 x114000 x114001)
def table_Check.l0 : Nat → List ByteArray → Int → Int → List ByteArray → List (List (S43)) → Option (Int)
  | 0, _, _, _, _, _ => none
  | k + 1, x20, x21, x22, x114000, x114001 => if x22 < x21 then (if 0 ≤ x22 then (if x22 < (x20.length : Int) then ((term_IsName.f k (rdOf ByteArray.empty x20 x22)).bind fun t115 => (if t115 = true then (if x22 ≤ (x114000.length : Int) then ((slices_Contains_string_string.f k (x114000.take (x22 : Int).toNat) (rdOf ByteArray.empty x20 x22)).bind fun t117 => (if t117 = true then (some 2) else (table_Check.l0 k x20 x21 (wrap64 (x22 + 1)) x114000 x114001))) else (none)) else (some 2))) else (none)) else (none)) else (table_Check.l1 k x114001 (x114001.length : Int) 0 x114000 x114001)
def table_Check.l1 : Nat → List (List (S43)) → Int → Int → List ByteArray → List (List (S43)) → Option (Int)
  | 0, _, _, _, _, _ => none
  | k + 1, x40, x41, x42, x114000, x114001 => if x42 < x41 then (if 0 ≤ x42 then (if x42 < (x40.length : Int) then (if ((rd_L3 x40 x42).length : Int) = (x114000.length : Int) then (table_Check.l2 k x40 x41 x42 (rd_L3 x40 x42) ((rd_L3 x40 x42).length : Int) 0 x114000 x114001) else (some 2)) else (none)) else (none)) else (some 0)
def table_Check.l2 : Nat → List (List (S43)) → Int → Int → List (S43) → Int → Int → List ByteArray → List (List (S43)) → Option (Int)
  | 0, _, _, _, _, _, _, _, _ => none
  | k + 1, x40, x41, x42, x52, x53, x54, x114000, x114001 => if x54 < x53 then (if 0 ≤ x54 then (if x54 < (x52.length : Int) then (if ((rd_T43 x52 x54).f0) = 4 then (some 2) else ((term_Check.f k ((rd_T43 x52 x54).f0) ((rd_T43 x52 x54).f1) ((rd_T43 x52 x54).f2) ((rd_T43 x52 x54).f3)).bind fun t121 => (if t121 = 0 then (table_Check.l2 k x40 x41 x42 x52 x53 (wrap64 (x54 + 1)) x114000 x114001) else (some 2)))) else (none)) else (none)) else (table_Check.l1 k x40 x41 (wrap64 (x42 + 1)) x114000 x114001)
end
def table_Check.f (k : Nat) (l0_0 : List ByteArray) (l0_1 : List (List (S43))) : Option (Int) := if (l0_0.length : Int) > 32 then (table_Check.j0 k true l0_0 l0_1) else (table_Check.j0 k (decide ((l0_1.length : Int) > 4096)) l0_0 l0_1)
set_option maxHeartbeats 8000000 in
set_option maxRecDepth 100000 in
theorem table_Check.calls (k : Nat) (A0_0 : Option Addr) (c0_0 : Nat) (l0_0 : List ByteArray) (A0_1 : Option Addr) (c0_1 : Nat) (l0_1 : List (List (S43))) (r : Int) (w : World) (hr0_0 : Kd.C Kd.string w A0_0 l0_0.length l0_0) (hc0_0 : l0_0.length ≤ c0_0) (hr0_1 : Kd.C (Kd.slice 43 k43) w A0_1 l0_1.length l0_1) (hc0_1 : l0_1.length ≤ c0_1) (h : table_Check.f k l0_0 l0_1 = some r) :
    Calls Tryd.prog 26 #[.agg #[.slice A0_0 l0_0.length c0_0, .slice A0_1 l0_1.length c0_1]] w fun e w' => e = .returned (.int .i64 r) ∧ Below w.heap.size w w' := by
  have hu25 := Tryd.underlying25
  have hu43 := Tryd.underlying43
  have HR0_0 := Aside0.mk hr0_0
  have HC0_0 := Aside0.mk hc0_0
  clear hr0_0 hc0_0
  have HR0_1 := Aside0.mk hr0_1
  have HC0_1 := Aside0.mk hc0_1
  clear hr0_1 hc0_1
  have HB := Aside0.mk (Below.refl w.heap.size w)
  have H : (if (l0_0.length : Int) > 32 then (table_Check.j0 k true l0_0 l0_1) else (table_Check.j0 k (decide ((l0_1.length : Int) > 4096)) l0_0 l0_1)) = some r := h
  clear h
  have HC2 := Aside0.mk H
  clear H
  go_enter Tryd.func26, Tryd.ntmps26
  go_upto_region 1 with (((with_reducible refine gate_dst (N := 1) rfl ?_); (try (refine gate_guard (by rfl) ?_; dsimp only)); refine box_event ?hg (N := 1) ?hd (cs := #[.slice A0_0 l0_0.length c0_0, .slice A0_1 l0_1.length c0_1]) (t := 25) ?hr ?_; (case hd => rfl); (case hg => rfl); (case hr => (go_simp; done)); intro gb113 hg w3 hbox hb; have n0_ := Aside0.mk (below_step (by repeat ((with_reducible exact HB.out))) hb); have n1_ := Aside0.mk (hbox); have n2_ := Aside0.mk ((by rw [hg]; exact (below_size (by repeat ((with_reducible exact HB.out)))) : w.heap.size ≤ gb113)); have n3_ := Aside0.mk ((by rw [hg]; exact (below_size (by repeat ((with_reducible exact HB.out)))) : w.heap.size ≤ gb113)); clear HB; have HB := n0_; have BK113 := n1_; have GW113 := n2_; have GE113 := n3_; clear n0_ n1_ n2_ n3_; clear hb hbox hg))
  go_cut [18] (fun v18 wc => ∃ (kq : Nat) (x18_1 : Bool), v18 = .bool x18_1 ∧ Aside0 (table_Check.j0 kq x18_1 l0_0 l0_1 = some r) ∧ Aside0 (kq ≤ k) ∧ Aside0 (wc.heap[gb113]? = some (.cells #[(.slice A0_0 l0_0.length c0_0), (.slice A0_1 l0_1.length c0_1)] 25 (0, 0))) ∧ Aside0 (Below w.heap.size w wc))
  case first =>
    have H := HC2.out
    clear HC2
    by_cases c4 : (l0_0.length : Int) > 32
    · rw [if_pos c4] at H
      have c4b0 : decide (32 < (l0_0.length : Int)) = true := decide_eq_true c4
      have c4b1 : decide (32 < l0_0.length) = true := decide_eq_true (by omega)
      clear c4
      have H' := Aside0.mk H
      clear H
      have hcz5_0 : w3.cell? ⟨gb113, 0, none⟩ = some (.slice A0_0 l0_0.length c0_0) := (blk_cell BK113.out 0).trans rfl
      have hcz5_1 : w3.cell? ⟨gb113, 1, none⟩ = some (.slice A0_1 l0_1.length c0_1) := (blk_cell BK113.out 1).trans rfl
      have hfz5_0 := blk_frozen BK113.out 0
      have hfz5_1 := blk_frozen BK113.out 1
      go_wp2
      go_meet
      case rel => exact ⟨_, (true), (by rfl), H', ⟨by omega⟩, ⟨by (with_reducible repeat (fail)); exact BK113.out⟩, ⟨by repeat ((with_reducible exact HB.out))⟩⟩
    rw [if_neg c4] at H
    have c4b0 : decide (32 < (l0_0.length : Int)) = false := decide_eq_false c4
    have c4b1 : decide (32 < l0_0.length) = false := decide_eq_false (by omega)
    clear c4
    have H' := Aside0.mk H
    clear H
    have hcz6_0 : w3.cell? ⟨gb113, 0, none⟩ = some (.slice A0_0 l0_0.length c0_0) := (blk_cell BK113.out 0).trans rfl
    have hcz6_1 : w3.cell? ⟨gb113, 1, none⟩ = some (.slice A0_1 l0_1.length c0_1) := (blk_cell BK113.out 1).trans rfl
    have hfz6_0 := blk_frozen BK113.out 0
    have hfz6_1 := blk_frozen BK113.out 1
    go_wp2
    go_meet
    case rel => exact ⟨_, (decide ((l0_1.length : Int) > 4096)), (by rfl), H', ⟨by omega⟩, ⟨by (with_reducible repeat (fail)); exact BK113.out⟩, ⟨by repeat ((with_reducible exact HB.out))⟩⟩
  case rest =>
    clear HC2
    obtain ⟨kq, x18_1, rfl, HA, HJ1, BK113, HB⟩ := hcut
    cases kq with
    | zero => exact absurd HA.out (by simp [table_Check.j0])
    | succ kj1 =>
      have H := HA.out
      clear HA
      simp only [table_Check.j0] at H
      by_cases c7 : x18_1 = true
      · subst c7
        have H1 : (some 2) = some r := by rw [if_pos rfl] at H; exact H
        clear H
        have H := H1
        clear H1
        obtain rfl := Option.some.inj H
        go_wp2
        go_ret
        exact ⟨by rfl, by repeat ((with_reducible exact HB.out))⟩
      replace c7 := Bool.eq_false_iff.mpr c7
      subst c7
      have H1 : (table_Check.l0 kj1 l0_0 (l0_0.length : Int) 0 l0_0 l0_1) = some r := by rw [if_neg (show ¬ (false = true) by decide)] at H; exact H
      clear H
      have H := H1
      clear H1
      have H' := Aside0.mk H
      clear H
      have hcz8_0 : wc.cell? ⟨gb113, 0, none⟩ = some (.slice A0_0 l0_0.length c0_0) := (blk_cell BK113.out 0).trans rfl
      have hcz8_1 : wc.cell? ⟨gb113, 1, none⟩ = some (.slice A0_1 l0_1.length c0_1) := (blk_cell BK113.out 1).trans rfl
      have hfz8_0 := blk_frozen BK113.out 0
      have hfz8_1 := blk_frozen BK113.out 1
      go_wp2
      go_loopg [22] kj1 (fun kq v22 w' => ∃ (x22_2 : Int), v22 = .int .i64 x22_2 ∧ Aside0 (table_Check.l0 kq l0_0 (l0_0.length : Int) x22_2 l0_0 l0_1 = some r) ∧ Aside0 (kq ≤ kj1) ∧ Aside0 (w'.heap[gb113]? = some (.cells #[(.slice A0_0 l0_0.length c0_0), (.slice A0_1 l0_1.length c0_1)] 25 (0, 0))) ∧ Aside0 (Below w.heap.size w w'))
      case atStart => exact ⟨(0), (by rfl), H', ⟨Nat.le_refl _⟩, ⟨by (with_reducible repeat (fail)); exact BK113.out⟩, ⟨by repeat ((with_reducible exact HB.out))⟩⟩
      case round =>
        clear H'
        try clear hcz8_0
        try clear hcz8_1
        try clear hfz8_0
        try clear hfz8_1
        obtain ⟨x22_2, rfl, HA, HK2, BK113, HB⟩ := hrel
        cases gk with
        | zero => exact absurd HA.out (by simp [table_Check.l0])
        | succ k2 =>
          have H := HA.out
          clear HA
          simp only [table_Check.l0] at H
          by_cases c9 : x22_2 < (l0_0.length : Int)
          · rw [if_pos c9] at H
            have c9b0 : decide (x22_2 < (l0_0.length : Int)) = true := decide_eq_true c9
            clear c9
            by_cases c10 : 0 ≤ x22_2
            · rw [if_pos c10] at H
              have c10b0 : decide (0 ≤ x22_2) = true := decide_eq_true c10
              clear c10
              by_cases c11 : x22_2 < (l0_0.length : Int)
              · rw [if_pos c11] at H
                have c11b0 : decide (x22_2 < (l0_0.length : Int)) = true := decide_eq_true c11
                clear c11
                replace H := Option.bind_eq_some_iff.mp H
                obtain ⟨t115, A120, H⟩ := H
                replace H : (if t115 = true then (if x22_2 ≤ (l0_0.length : Int) then ((slices_Contains_string_string.f k2 (l0_0.take (x22_2 : Int).toNat) (rdOf ByteArray.empty l0_0 x22_2)).bind fun t117 => (if t117 = true then (some 2) else (table_Check.l0 k2 l0_0 (l0_0.length : Int) (wrap64 (x22_2 + 1)) l0_0 l0_1))) else (none)) else (some 2)) = some r := H
                have A12 := Aside0.mk A120
                clear A120
                by_cases c13 : t115 = true
                · subst c13
                  have H1 : (if x22_2 ≤ (l0_0.length : Int) then ((slices_Contains_string_string.f k2 (l0_0.take (x22_2 : Int).toNat) (rdOf ByteArray.empty l0_0 x22_2)).bind fun t117 => (if t117 = true then (some 2) else (table_Check.l0 k2 l0_0 (l0_0.length : Int) (wrap64 (x22_2 + 1)) l0_0 l0_1))) else (none)) = some r := by rw [if_pos rfl] at H; exact H
                  clear H
                  have H := H1
                  clear H1
                  have c14b0 := eq_true (of_decide_eq_true (by (with_reducible assumption)) : 0 ≤ x22_2)
                  by_cases c15 : x22_2 ≤ (l0_0.length : Int)
                  · rw [if_pos c15] at H
                    have c15b0 := eq_true c15
                    have c15b1 : decide (x22_2 ≤ (l0_0.length : Int)) = true := decide_eq_true c15
                    clear c15
                    replace H := Option.bind_eq_some_iff.mp H
                    obtain ⟨t117, A160, H⟩ := H
                    replace H : (if t117 = true then (some 2) else (table_Check.l0 k2 l0_0 (l0_0.length : Int) (wrap64 (x22_2 + 1)) l0_0 l0_1)) = some r := H
                    have A16 := Aside0.mk A160
                    clear A160
                    by_cases c17 : t117 = true
                    · subst c17
                      have H1 : (some 2) = some r := by rw [if_pos rfl] at H; exact H
                      clear H
                      have H := H1
                      clear H1
                      obtain rfl := Option.some.inj H
                      have p114 : 0 ≤ (x22_2 : Int) := of_decide_eq_true (by (with_reducible assumption))
                      have q114 : x22_2 < (l0_0.length : Int) := of_decide_eq_true (by (with_reducible assumption))
                      obtain ⟨ad114, e114, hx114_0⟩ := Kd.at_string HR0_0.out x22_2 p114 q114
                      cases e114
                      replace hx114_0 := (HB.out.cell (World.block_lt_of_cell? w _ hx114_0)).trans hx114_0
                      replace p114 := eq_true p114
                      replace q114 := eq_true q114
                      go_wp2_with (first | ((with_reducible refine gate_callee (f := 41) rfl ?_); refine goesL_ (some 28) rfl rfl Tryd.func41 (by kernel_rfl) rfl #[.string (rdOf ByteArray.empty l0_0 x22_2)] rfl (by (try simp only [List.map_toArray, List.map_cons, List.map_nil]); rfl) ?_; (with_reducible refine (term_IsName.calls k2 (rdOf ByteArray.empty l0_0 x22_2) true _ A12.out).mono ?_); rintro e w' ⟨rfl, ⟨nd, rfl⟩⟩; refine ⟨_, rfl, ?_⟩; have hcz18_0 : wr.cell? ⟨gb113, 0, none⟩ = some (.slice (some ad114) l0_0.length c0_0) := (blk_cell BK113.out 0).trans rfl; have hcz18_1 : wr.cell? ⟨gb113, 1, none⟩ = some (.slice A0_1 l0_1.length c0_1) := (blk_cell BK113.out 1).trans rfl; have hfz18_0 := blk_frozen BK113.out 0; have hfz18_1 := blk_frozen BK113.out 1; obtain ⟨i019, hi019, _, hsz19, _⟩ := info_parts info9; obtain ⟨hcut19, hA19, hC19⟩ := print_take_of (P := Tryd.prog) Value.string (⟨#[]⟩ : ByteArray) 22 9 .i64 Tryd.underlying22 hi019 hsz19 (some ad114) c0_0 l0_0 x22_2 (of_decide_eq_true (by (with_reducible assumption))) (of_decide_eq_true (by (with_reducible assumption))) HC0_0.out; have HR116 := Aside0.mk (Kd.C_of_reads (h1 := fun _ => rfl) (hA19 _ (Kd.reads_of_C HR0_0.out))); have HC116 := Aside0.mk hC19; clear hA19 hC19 hi019 hsz19) | (go_at_call 42; ((rw [(show (x22_2).toNat = (l0_0.take (x22_2 : Int).toNat).length from by have h1_ : x22_2 ≤ (l0_0.length : Int) := (by exact (of_decide_eq_true (by (with_reducible assumption)))); rw [List.length_take]; omega)]; (with_reducible refine (slices_Contains_string_string.calls k2 _ _ (l0_0.take (x22_2 : Int).toNat) (rdOf ByteArray.empty l0_0 x22_2) true _ ?side1 ?side2 A16.out).mono ?_))); (case side1 => repeat (exact (Kd.C_below HR116.out (by repeat ((with_reducible first | exact HB.out | apply pw_below_drewN)))))); (case side2 => exact HC116.out); rintro e w' ⟨rfl, ⟨nd, rfl⟩⟩))
                      go_ret
                      exact ⟨by rfl, by repeat ((with_reducible first | exact HB.out | apply pw_below_drewN))⟩
                    replace c17 := Bool.eq_false_iff.mpr c17
                    subst c17
                    have H1 : (table_Check.l0 k2 l0_0 (l0_0.length : Int) (wrap64 (x22_2 + 1)) l0_0 l0_1) = some r := by rw [if_neg (show ¬ (false = true) by decide)] at H; exact H
                    clear H
                    have H := H1
                    clear H1
                    have H' := Aside0.mk H
                    clear H
                    have p114 : 0 ≤ (x22_2 : Int) := of_decide_eq_true (by (with_reducible assumption))
                    have q114 : x22_2 < (l0_0.length : Int) := of_decide_eq_true (by (with_reducible assumption))
                    obtain ⟨ad114, e114, hx114_0⟩ := Kd.at_string HR0_0.out x22_2 p114 q114
                    cases e114
                    replace hx114_0 := (HB.out.cell (World.block_lt_of_cell? w _ hx114_0)).trans hx114_0
                    replace p114 := eq_true p114
                    replace q114 := eq_true q114
                    go_wp2_with (first | ((with_reducible refine gate_callee (f := 41) rfl ?_); refine goesL_ (some 28) rfl rfl Tryd.func41 (by kernel_rfl) rfl #[.string (rdOf ByteArray.empty l0_0 x22_2)] rfl (by (try simp only [List.map_toArray, List.map_cons, List.map_nil]); rfl) ?_; (with_reducible refine (term_IsName.calls k2 (rdOf ByteArray.empty l0_0 x22_2) true _ A12.out).mono ?_); rintro e w' ⟨rfl, ⟨nd, rfl⟩⟩; refine ⟨_, rfl, ?_⟩; have hcz20_0 : wr.cell? ⟨gb113, 0, none⟩ = some (.slice (some ad114) l0_0.length c0_0) := (blk_cell BK113.out 0).trans rfl; have hcz20_1 : wr.cell? ⟨gb113, 1, none⟩ = some (.slice A0_1 l0_1.length c0_1) := (blk_cell BK113.out 1).trans rfl; have hfz20_0 := blk_frozen BK113.out 0; have hfz20_1 := blk_frozen BK113.out 1; obtain ⟨i021, hi021, _, hsz21, _⟩ := info_parts info9; obtain ⟨hcut21, hA21, hC21⟩ := print_take_of (P := Tryd.prog) Value.string (⟨#[]⟩ : ByteArray) 22 9 .i64 Tryd.underlying22 hi021 hsz21 (some ad114) c0_0 l0_0 x22_2 (of_decide_eq_true (by (with_reducible assumption))) (of_decide_eq_true (by (with_reducible assumption))) HC0_0.out; have HR116 := Aside0.mk (Kd.C_of_reads (h1 := fun _ => rfl) (hA21 _ (Kd.reads_of_C HR0_0.out))); have HC116 := Aside0.mk hC21; clear hA21 hC21 hi021 hsz21) | (go_at_call 42; ((rw [(show (x22_2).toNat = (l0_0.take (x22_2 : Int).toNat).length from by have h1_ : x22_2 ≤ (l0_0.length : Int) := (by exact (of_decide_eq_true (by (with_reducible assumption)))); rw [List.length_take]; omega)]; (with_reducible refine (slices_Contains_string_string.calls k2 _ _ (l0_0.take (x22_2 : Int).toNat) (rdOf ByteArray.empty l0_0 x22_2) false _ ?side1 ?side2 A16.out).mono ?_))); (case side1 => repeat (exact (Kd.C_below HR116.out (by repeat ((with_reducible first | exact HB.out | apply pw_below_drewN)))))); (case side2 => exact HC116.out); rintro e w' ⟨rfl, ⟨nd, rfl⟩⟩))
                    go_roundg k2
                    case measure => have := HJ1.out; have := HK2.out; omega
                    case rel => exact ⟨(wrap64 (x22_2 + 1)), (by rfl), H', ⟨by have := HJ1.out; have := HK2.out; omega⟩, ⟨by (with_reducible repeat (refine blk_drewN ?_ _)); exact BK113.out⟩, ⟨by repeat ((with_reducible first | exact HB.out | apply pw_below_drewN))⟩⟩
                  rw [if_neg c15] at H
                  exact absurd H (by simp)
                replace c13 := Bool.eq_false_iff.mpr c13
                subst c13
                have H1 : (some 2) = some r := by rw [if_neg (show ¬ (false = true) by decide)] at H; exact H
                clear H
                have H := H1
                clear H1
                obtain rfl := Option.some.inj H
                have p114 : 0 ≤ (x22_2 : Int) := of_decide_eq_true (by (with_reducible assumption))
                have q114 : x22_2 < (l0_0.length : Int) := of_decide_eq_true (by (with_reducible assumption))
                obtain ⟨ad114, e114, hx114_0⟩ := Kd.at_string HR0_0.out x22_2 p114 q114
                cases e114
                replace hx114_0 := (HB.out.cell (World.block_lt_of_cell? w _ hx114_0)).trans hx114_0
                replace p114 := eq_true p114
                replace q114 := eq_true q114
                go_wp2_with (((with_reducible refine gate_callee (f := 41) rfl ?_); refine goesL_ (some 28) rfl rfl Tryd.func41 (by kernel_rfl) rfl #[.string (rdOf ByteArray.empty l0_0 x22_2)] rfl (by (try simp only [List.map_toArray, List.map_cons, List.map_nil]); rfl) ?_; (with_reducible refine (term_IsName.calls k2 (rdOf ByteArray.empty l0_0 x22_2) false _ A12.out).mono ?_); rintro e w' ⟨rfl, ⟨nd, rfl⟩⟩; refine ⟨_, rfl, ?_⟩))
                go_ret
                exact ⟨by rfl, by repeat ((with_reducible first | exact HB.out | apply pw_below_drewN))⟩
              rw [if_neg c11] at H
              exact absurd H (by simp)
            rw [if_neg c10] at H
            exact absurd H (by simp)
          rw [if_neg c9] at H
          have c9b0 : decide (x22_2 < (l0_0.length : Int)) = false := decide_eq_false c9
          clear c9
          have H' := Aside0.mk H
          clear H
          have hcz22_0 : wr.cell? ⟨gb113, 0, none⟩ = some (.slice A0_0 l0_0.length c0_0) := (blk_cell BK113.out 0).trans rfl
          have hcz22_1 : wr.cell? ⟨gb113, 1, none⟩ = some (.slice A0_1 l0_1.length c0_1) := (blk_cell BK113.out 1).trans rfl
          have hfz22_0 := blk_frozen BK113.out 0
          have hfz22_1 := blk_frozen BK113.out 1
          go_wp2
          go_loopg [42] k2 (fun kq v42 w' => ∃ (x42_3 : Int), v42 = .int .i64 x42_3 ∧ Aside0 (table_Check.l1 kq l0_1 (l0_1.length : Int) x42_3 l0_0 l0_1 = some r) ∧ Aside0 (kq ≤ k2) ∧ Aside0 (w'.heap[gb113]? = some (.cells #[(.slice A0_0 l0_0.length c0_0), (.slice A0_1 l0_1.length c0_1)] 25 (0, 0))) ∧ Aside0 (Below w.heap.size w w'))
          case atStart => exact ⟨(0), (by rfl), H', ⟨Nat.le_refl _⟩, ⟨by (with_reducible repeat (fail)); exact BK113.out⟩, ⟨by repeat ((with_reducible exact HB.out))⟩⟩
          case round =>
            clear H'
            try clear c9b0
            try clear hcz22_0
            try clear hcz22_1
            try clear hfz22_0
            try clear hfz22_1
            obtain ⟨x42_3, rfl, HA, HK3, BK113, HB⟩ := hrel
            cases gk with
            | zero => exact absurd HA.out (by simp [table_Check.l1])
            | succ k3 =>
              have H := HA.out
              clear HA
              simp only [table_Check.l1] at H
              by_cases c23 : x42_3 < (l0_1.length : Int)
              · rw [if_pos c23] at H
                have c23b0 : decide (x42_3 < (l0_1.length : Int)) = true := decide_eq_true c23
                clear c23
                by_cases c24 : 0 ≤ x42_3
                · rw [if_pos c24] at H
                  have c24b0 : decide (0 ≤ x42_3) = true := decide_eq_true c24
                  clear c24
                  by_cases c25 : x42_3 < (l0_1.length : Int)
                  · rw [if_pos c25] at H
                    have c25b0 : decide (x42_3 < (l0_1.length : Int)) = true := decide_eq_true c25
                    clear c25
                    by_cases c26 : ((rd_L3 l0_1 x42_3).length : Int) = (l0_0.length : Int)
                    · rw [if_pos c26] at H
                      have c26b0 : (((rd_L3 l0_1 x42_3).length : Int) == (l0_0.length : Int)) = true := beq_iff_eq.mpr c26
                      have c26b1 : (((rd_L3 l0_1 x42_3).length : Int) != (l0_0.length : Int)) = false := bne_eq_false_iff_eq.mpr c26
                      have c26b2 : ((rd_L3 l0_1 x42_3).length == l0_0.length) = true := by (simp at c26 ⊢; omega)
                      clear c26
                      have H' := Aside0.mk H
                      clear H
                      have p118 : 0 ≤ (x42_3 : Int) := of_decide_eq_true (by (with_reducible assumption))
                      have q118 : x42_3 < (l0_1.length : Int) := of_decide_eq_true (by (with_reducible assumption))
                      obtain ⟨ad118, A118_0, c118_0, e118, hx118_0, hl118_0, hi118_0⟩ := at_L3 HR0_1.out x42_3 p118 q118
                      cases e118
                      replace hx118_0 := (HB.out.cell (World.block_lt_of_cell? w _ hx118_0)).trans hx118_0
                      have HR118_0 := Aside0.mk hi118_0
                      have HC118_0 := Aside0.mk hl118_0
                      clear hi118_0 hl118_0
                      replace p118 := eq_true p118
                      replace q118 := eq_true q118
                      have hcz27_0 : wr.cell? ⟨gb113, 0, none⟩ = some (.slice A0_0 l0_0.length c0_0) := (blk_cell BK113.out 0).trans rfl
                      have hcz27_1 : wr.cell? ⟨gb113, 1, none⟩ = some (.slice (some ad118) l0_1.length c0_1) := (blk_cell BK113.out 1).trans rfl
                      have hfz27_0 := blk_frozen BK113.out 0
                      have hfz27_1 := blk_frozen BK113.out 1
                      go_wp2
                      go_loopg [54] k3 (fun kq v54 w' => ∃ (x54_4 : Int), v54 = .int .i64 x54_4 ∧ Aside0 (table_Check.l2 kq l0_1 (l0_1.length : Int) x42_3 (rd_L3 l0_1 x42_3) ((rd_L3 l0_1 x42_3).length : Int) x54_4 l0_0 l0_1 = some r) ∧ Aside0 (kq ≤ k3) ∧ Aside0 (w'.heap[gb113]? = some (.cells #[(.slice A0_0 l0_0.length c0_0), (.slice (some ad118) l0_1.length c0_1)] 25 (0, 0))) ∧ Aside0 (Below w.heap.size w w'))
                      case atStart => exact ⟨(0), (by rfl), H', ⟨Nat.le_refl _⟩, ⟨by (with_reducible repeat (fail)); exact BK113.out⟩, ⟨by repeat ((with_reducible exact HB.out))⟩⟩
                      case round =>
                        clear H'
                        try clear c23b0
                        try clear c24b0
                        try clear c25b0
                        try clear c26b0
                        try clear c26b1
                        try clear c26b2
                        try clear hcz27_0
                        try clear hcz27_1
                        try clear hfz27_0
                        try clear hfz27_1
                        try clear hx118_0
                        try clear p118
                        try clear q118
                        obtain ⟨x54_4, rfl, HA, HK4, BK113, HB⟩ := hrel
                        cases gk with
                        | zero => exact absurd HA.out (by simp [table_Check.l2])
                        | succ k4 =>
                          have H := HA.out
                          clear HA
                          simp only [table_Check.l2] at H
                          by_cases c28 : x54_4 < ((rd_L3 l0_1 x42_3).length : Int)
                          · rw [if_pos c28] at H
                            have c28b0 : decide (x54_4 < ((rd_L3 l0_1 x42_3).length : Int)) = true := decide_eq_true c28
                            clear c28
                            by_cases c29 : 0 ≤ x54_4
                            · rw [if_pos c29] at H
                              have c29b0 : decide (0 ≤ x54_4) = true := decide_eq_true c29
                              clear c29
                              by_cases c30 : x54_4 < ((rd_L3 l0_1 x42_3).length : Int)
                              · rw [if_pos c30] at H
                                have c30b0 : decide (x54_4 < ((rd_L3 l0_1 x42_3).length : Int)) = true := decide_eq_true c30
                                clear c30
                                by_cases c31 : ((rd_T43 (rd_L3 l0_1 x42_3) x54_4).f0) = 4
                                · rw [if_pos c31] at H
                                  have c31b0 : (((rd_T43 (rd_L3 l0_1 x42_3) x54_4).f0) == 4) = true := beq_iff_eq.mpr c31
                                  have c31b1 : (((rd_T43 (rd_L3 l0_1 x42_3) x54_4).f0) != 4) = false := bne_eq_false_iff_eq.mpr c31
                                  clear c31
                                  obtain rfl := Option.some.inj H
                                  have p119 : 0 ≤ (x54_4 : Int) := of_decide_eq_true (by (with_reducible assumption))
                                  have q119 : x54_4 < ((rd_L3 l0_1 x42_3).length : Int) := of_decide_eq_true (by (with_reducible assumption))
                                  obtain ⟨ad119, e119, hx119_0, hx119_1, hx119_2, hx119_3⟩ := at_T43 HR118_0.out x54_4 p119 q119
                                  cases e119
                                  replace hx119_0 := (HB.out.cell (World.block_lt_of_cell? w _ hx119_0)).trans hx119_0
                                  replace hx119_1 := (HB.out.cell (World.block_lt_of_cell? w _ hx119_1)).trans hx119_1
                                  replace hx119_2 := (HB.out.cell (World.block_lt_of_cell? w _ hx119_2)).trans hx119_2
                                  replace hx119_3 := (HB.out.cell (World.block_lt_of_cell? w _ hx119_3)).trans hx119_3
                                  replace p119 := eq_true p119
                                  replace q119 := eq_true q119
                                  go_wp2_with (((with_reducible refine gate_dst (N := 8) rfl ?_); (try (refine gate_guard (by rfl) ?_; dsimp only)); refine box_event ?hg (N := 8) ?hd (cs := #[.int .i64 0, .string (⟨#[]⟩ : ByteArray), .string (⟨#[]⟩ : ByteArray), .string (⟨#[]⟩ : ByteArray)]) (t := 43) ?hr ?_; (case hd => rfl); (case hg => rfl); (case hr => (go_simp; done)); intro gb120 hg w32 hbox hb; have n0_ := Aside0.mk (blk_below (g := gb113) (o := .cells #[.slice A0_0 l0_0.length c0_0, .slice (some ad118) l0_1.length c0_1] 25 (0, 0)) (by (with_reducible repeat (fail)); exact BK113.out) hb); have n1_ := Aside0.mk (below_step (by repeat ((with_reducible exact HB.out))) hb); have n2_ := Aside0.mk (hbox); have n3_ := Aside0.mk ((by rw [hg]; exact (below_size (by repeat ((with_reducible exact HB.out)))) : w.heap.size ≤ gb120)); have n4_ := Aside0.mk ((by rw [hg]; exact (below_size (by repeat ((with_reducible exact HB.out)))) : w.heap.size ≤ gb120)); have n5_ := Aside0.mk ((by rw [hg]; exact Nat.ne_of_lt (blk_lt (g := gb113) (o := .cells #[.slice A0_0 l0_0.length c0_0, .slice (some ad118) l0_1.length c0_1] 25 (0, 0)) (by (with_reducible repeat (fail)); exact BK113.out)) : gb113 ≠ gb120)); have n6_ := Aside0.mk ((by rw [hg]; exact Nat.ne_of_gt (blk_lt (g := gb113) (o := .cells #[.slice A0_0 l0_0.length c0_0, .slice (some ad118) l0_1.length c0_1] 25 (0, 0)) (by (with_reducible repeat (fail)); exact BK113.out)) : gb120 ≠ gb113)); clear BK113; clear HB; have BK113 := n0_; have HB := n1_; have BK120 := n2_; have GW120 := n3_; have GE120 := n4_; have NB113_120 := n5_; have NB120_113 := n6_; clear n0_ n1_ n2_ n3_ n4_ n5_ n6_; clear hb hbox hg; have hnb33 := NB120_113.out; have hnc33 := NB113_120.out; have hcz34_0 : w32.cell? ⟨gb120, 0, none⟩ = some (.int .i64 0) := (blk_cell BK120.out 0).trans rfl; have hcz34_1 : w32.cell? ⟨gb120, 1, none⟩ = some (.string (⟨#[]⟩ : ByteArray)) := (blk_cell BK120.out 1).trans rfl; have hcz34_2 : w32.cell? ⟨gb120, 2, none⟩ = some (.string (⟨#[]⟩ : ByteArray)) := (blk_cell BK120.out 2).trans rfl; have hcz34_3 : w32.cell? ⟨gb120, 3, none⟩ = some (.string (⟨#[]⟩ : ByteArray)) := (blk_cell BK120.out 3).trans rfl; have hfz34_0 := blk_frozen BK120.out 0; have hfz34_1 := blk_frozen BK120.out 1; have hfz34_2 := blk_frozen BK120.out 2; have hfz34_3 := blk_frozen BK120.out 3))
                                  go_ret
                                  exact ⟨by rfl, by repeat ((with_reducible first | exact HB.out | refine below_set ?_ GE120.out))⟩
                                rw [if_neg c31] at H
                                have c31b0 : (((rd_T43 (rd_L3 l0_1 x42_3) x54_4).f0) == 4) = false := beq_eq_false_iff_ne.mpr c31
                                have c31b1 : (((rd_T43 (rd_L3 l0_1 x42_3) x54_4).f0) != 4) = true := bne_iff_ne.mpr c31
                                replace H := Option.bind_eq_some_iff.mp H
                                obtain ⟨t121, A350, H⟩ := H
                                replace H : (if t121 = 0 then (table_Check.l2 k4 l0_1 (l0_1.length : Int) x42_3 (rd_L3 l0_1 x42_3) ((rd_L3 l0_1 x42_3).length : Int) (wrap64 (x54_4 + 1)) l0_0 l0_1) else (some 2)) = some r := H
                                have A35 := Aside0.mk A350
                                clear A350
                                by_cases c36 : t121 = 0
                                · rw [if_pos c36] at H
                                  have c36b0 : (t121 == 0) = true := beq_iff_eq.mpr c36
                                  have c36b1 : (t121 != 0) = false := bne_eq_false_iff_eq.mpr c36
                                  clear c36
                                  have H' := Aside0.mk H
                                  clear H
                                  have p119 : 0 ≤ (x54_4 : Int) := of_decide_eq_true (by (with_reducible assumption))
                                  have q119 : x54_4 < ((rd_L3 l0_1 x42_3).length : Int) := of_decide_eq_true (by (with_reducible assumption))
                                  obtain ⟨ad119, e119, hx119_0, hx119_1, hx119_2, hx119_3⟩ := at_T43 HR118_0.out x54_4 p119 q119
                                  cases e119
                                  replace hx119_0 := (HB.out.cell (World.block_lt_of_cell? w _ hx119_0)).trans hx119_0
                                  replace hx119_1 := (HB.out.cell (World.block_lt_of_cell? w _ hx119_1)).trans hx119_1
                                  replace hx119_2 := (HB.out.cell (World.block_lt_of_cell? w _ hx119_2)).trans hx119_2
                                  replace hx119_3 := (HB.out.cell (World.block_lt_of_cell? w _ hx119_3)).trans hx119_3
                                  replace p119 := eq_true p119
                                  replace q119 := eq_true q119
                                  go_wp2_with (first | ((with_reducible refine gate_dst (N := 8) rfl ?_); (try (refine gate_guard (by rfl) ?_; dsimp only)); refine box_event ?hg (N := 8) ?hd (cs := #[.int .i64 0, .string (⟨#[]⟩ : ByteArray), .string (⟨#[]⟩ : ByteArray), .string (⟨#[]⟩ : ByteArray)]) (t := 43) ?hr ?_; (case hd => rfl); (case hg => rfl); (case hr => (go_simp; done)); intro gb120 hg w37 hbox hb; have n0_ := Aside0.mk (blk_below (g := gb113) (o := .cells #[.slice A0_0 l0_0.length c0_0, .slice (some ad118) l0_1.length c0_1] 25 (0, 0)) (by (with_reducible repeat (fail)); exact BK113.out) hb); have n1_ := Aside0.mk (below_step (by repeat ((with_reducible exact HB.out))) hb); have n2_ := Aside0.mk (hbox); have n3_ := Aside0.mk ((by rw [hg]; exact (below_size (by repeat ((with_reducible exact HB.out)))) : w.heap.size ≤ gb120)); have n4_ := Aside0.mk ((by rw [hg]; exact (below_size (by repeat ((with_reducible exact HB.out)))) : w.heap.size ≤ gb120)); have n5_ := Aside0.mk ((by rw [hg]; exact Nat.ne_of_lt (blk_lt (g := gb113) (o := .cells #[.slice A0_0 l0_0.length c0_0, .slice (some ad118) l0_1.length c0_1] 25 (0, 0)) (by (with_reducible repeat (fail)); exact BK113.out)) : gb113 ≠ gb120)); have n6_ := Aside0.mk ((by rw [hg]; exact Nat.ne_of_gt (blk_lt (g := gb113) (o := .cells #[.slice A0_0 l0_0.length c0_0, .slice (some ad118) l0_1.length c0_1] 25 (0, 0)) (by (with_reducible repeat (fail)); exact BK113.out)) : gb120 ≠ gb113)); clear BK113; clear HB; have BK113 := n0_; have HB := n1_; have BK120 := n2_; have GW120 := n3_; have GE120 := n4_; have NB113_120 := n5_; have NB120_113 := n6_; clear n0_ n1_ n2_ n3_ n4_ n5_ n6_; clear hb hbox hg; have hnb38 := NB120_113.out; have hnc38 := NB113_120.out; have hcz39_0 : w37.cell? ⟨gb120, 0, none⟩ = some (.int .i64 0) := (blk_cell BK120.out 0).trans rfl; have hcz39_1 : w37.cell? ⟨gb120, 1, none⟩ = some (.string (⟨#[]⟩ : ByteArray)) := (blk_cell BK120.out 1).trans rfl; have hcz39_2 : w37.cell? ⟨gb120, 2, none⟩ = some (.string (⟨#[]⟩ : ByteArray)) := (blk_cell BK120.out 2).trans rfl; have hcz39_3 : w37.cell? ⟨gb120, 3, none⟩ = some (.string (⟨#[]⟩ : ByteArray)) := (blk_cell BK120.out 3).trans rfl; have hfz39_0 := blk_frozen BK120.out 0; have hfz39_1 := blk_frozen BK120.out 1; have hfz39_2 := blk_frozen BK120.out 2; have hfz39_3 := blk_frozen BK120.out 3) | (go_at_call 31; (with_reducible refine (term_Check.calls k4 ((rd_T43 (rd_L3 l0_1 x42_3) x54_4).f0) ((rd_T43 (rd_L3 l0_1 x42_3) x54_4).f1) ((rd_T43 (rd_L3 l0_1 x42_3) x54_4).f2) ((rd_T43 (rd_L3 l0_1 x42_3) x54_4).f3) t121 _ A35.out).mono ?_); rintro e w40 ⟨rfl, hb⟩; have n0_ := Aside0.mk (blk_below (g := gb113) (o := .cells #[.slice A0_0 l0_0.length c0_0, .slice (some ad118) l0_1.length c0_1] 25 (0, 0)) (by (with_reducible repeat (fail)); refine blk_far ?_ NB113_120.out _; (with_reducible repeat (fail)); refine blk_far ?_ NB113_120.out _; (with_reducible repeat (fail)); refine blk_far ?_ NB113_120.out _; (with_reducible repeat (fail)); refine blk_far ?_ NB113_120.out _; (with_reducible repeat (fail)); exact BK113.out) hb); have n1_ := Aside0.mk (blk_below (g := gb120) (o := .cells #[.int .i64 ((rd_T43 (rd_L3 l0_1 x42_3) x54_4).f0), .string ((rd_T43 (rd_L3 l0_1 x42_3) x54_4).f1), .string ((rd_T43 (rd_L3 l0_1 x42_3) x54_4).f2), .string ((rd_T43 (rd_L3 l0_1 x42_3) x54_4).f3)] 43 (0, 0)) (by (with_reducible repeat (fail)); refine blk_put (cs := #[.int .i64 ((rd_T43 (rd_L3 l0_1 x42_3) x54_4).f0), .string ((rd_T43 (rd_L3 l0_1 x42_3) x54_4).f1), .string ((rd_T43 (rd_L3 l0_1 x42_3) x54_4).f2), .string (⟨#[]⟩ : ByteArray)]) ?_ 3 _ rfl; (with_reducible repeat (fail)); refine blk_put (cs := #[.int .i64 ((rd_T43 (rd_L3 l0_1 x42_3) x54_4).f0), .string ((rd_T43 (rd_L3 l0_1 x42_3) x54_4).f1), .string (⟨#[]⟩ : ByteArray), .string (⟨#[]⟩ : ByteArray)]) ?_ 2 _ rfl; (with_reducible repeat (fail)); refine blk_put (cs := #[.int .i64 ((rd_T43 (rd_L3 l0_1 x42_3) x54_4).f0), .string (⟨#[]⟩ : ByteArray), .string (⟨#[]⟩ : ByteArray), .string (⟨#[]⟩ : ByteArray)]) ?_ 1 _ rfl; (with_reducible repeat (fail)); refine blk_put (cs := #[.int .i64 0, .string (⟨#[]⟩ : ByteArray), .string (⟨#[]⟩ : ByteArray), .string (⟨#[]⟩ : ByteArray)]) ?_ 0 _ rfl; (with_reducible repeat (fail)); exact BK120.out) hb); have n2_ := Aside0.mk (below_step (by repeat ((with_reducible first | exact HB.out | refine below_set ?_ GE120.out))) hb); clear BK113; clear BK120; clear HB; have BK113 := n0_; have BK120 := n1_; have HB := n2_; clear n0_ n1_ n2_; (try clear hb)))
                                  go_roundg k4
                                  case measure => have := HJ1.out; have := HK2.out; have := HK3.out; have := HK4.out; omega
                                  case rel => exact ⟨(wrap64 (x54_4 + 1)), (by rfl), H', ⟨by have := HJ1.out; have := HK2.out; have := HK3.out; have := HK4.out; omega⟩, ⟨by (with_reducible repeat (fail)); exact BK113.out⟩, ⟨by repeat ((with_reducible exact HB.out))⟩⟩
                                rw [if_neg c36] at H
                                have c36b0 : (t121 == 0) = false := beq_eq_false_iff_ne.mpr c36
                                have c36b1 : (t121 != 0) = true := bne_iff_ne.mpr c36
                                obtain rfl := Option.some.inj H
                                have p119 : 0 ≤ (x54_4 : Int) := of_decide_eq_true (by (with_reducible assumption))
                                have q119 : x54_4 < ((rd_L3 l0_1 x42_3).length : Int) := of_decide_eq_true (by (with_reducible assumption))
                                obtain ⟨ad119, e119, hx119_0, hx119_1, hx119_2, hx119_3⟩ := at_T43 HR118_0.out x54_4 p119 q119
                                cases e119
                                replace hx119_0 := (HB.out.cell (World.block_lt_of_cell? w _ hx119_0)).trans hx119_0
                                replace hx119_1 := (HB.out.cell (World.block_lt_of_cell? w _ hx119_1)).trans hx119_1
                                replace hx119_2 := (HB.out.cell (World.block_lt_of_cell? w _ hx119_2)).trans hx119_2
                                replace hx119_3 := (HB.out.cell (World.block_lt_of_cell? w _ hx119_3)).trans hx119_3
                                replace p119 := eq_true p119
                                replace q119 := eq_true q119
                                go_wp2_with (first | ((with_reducible refine gate_dst (N := 8) rfl ?_); (try (refine gate_guard (by rfl) ?_; dsimp only)); refine box_event ?hg (N := 8) ?hd (cs := #[.int .i64 0, .string (⟨#[]⟩ : ByteArray), .string (⟨#[]⟩ : ByteArray), .string (⟨#[]⟩ : ByteArray)]) (t := 43) ?hr ?_; (case hd => rfl); (case hg => rfl); (case hr => (go_simp; done)); intro gb120 hg w41 hbox hb; have n0_ := Aside0.mk (blk_below (g := gb113) (o := .cells #[.slice A0_0 l0_0.length c0_0, .slice (some ad118) l0_1.length c0_1] 25 (0, 0)) (by (with_reducible repeat (fail)); exact BK113.out) hb); have n1_ := Aside0.mk (below_step (by repeat ((with_reducible exact HB.out))) hb); have n2_ := Aside0.mk (hbox); have n3_ := Aside0.mk ((by rw [hg]; exact (below_size (by repeat ((with_reducible exact HB.out)))) : w.heap.size ≤ gb120)); have n4_ := Aside0.mk ((by rw [hg]; exact (below_size (by repeat ((with_reducible exact HB.out)))) : w.heap.size ≤ gb120)); have n5_ := Aside0.mk ((by rw [hg]; exact Nat.ne_of_lt (blk_lt (g := gb113) (o := .cells #[.slice A0_0 l0_0.length c0_0, .slice (some ad118) l0_1.length c0_1] 25 (0, 0)) (by (with_reducible repeat (fail)); exact BK113.out)) : gb113 ≠ gb120)); have n6_ := Aside0.mk ((by rw [hg]; exact Nat.ne_of_gt (blk_lt (g := gb113) (o := .cells #[.slice A0_0 l0_0.length c0_0, .slice (some ad118) l0_1.length c0_1] 25 (0, 0)) (by (with_reducible repeat (fail)); exact BK113.out)) : gb120 ≠ gb113)); clear BK113; clear HB; have BK113 := n0_; have HB := n1_; have BK120 := n2_; have GW120 := n3_; have GE120 := n4_; have NB113_120 := n5_; have NB120_113 := n6_; clear n0_ n1_ n2_ n3_ n4_ n5_ n6_; clear hb hbox hg; have hnb42 := NB120_113.out; have hnc42 := NB113_120.out; have hcz43_0 : w41.cell? ⟨gb120, 0, none⟩ = some (.int .i64 0) := (blk_cell BK120.out 0).trans rfl; have hcz43_1 : w41.cell? ⟨gb120, 1, none⟩ = some (.string (⟨#[]⟩ : ByteArray)) := (blk_cell BK120.out 1).trans rfl; have hcz43_2 : w41.cell? ⟨gb120, 2, none⟩ = some (.string (⟨#[]⟩ : ByteArray)) := (blk_cell BK120.out 2).trans rfl; have hcz43_3 : w41.cell? ⟨gb120, 3, none⟩ = some (.string (⟨#[]⟩ : ByteArray)) := (blk_cell BK120.out 3).trans rfl; have hfz43_0 := blk_frozen BK120.out 0; have hfz43_1 := blk_frozen BK120.out 1; have hfz43_2 := blk_frozen BK120.out 2; have hfz43_3 := blk_frozen BK120.out 3) | (go_at_call 31; (with_reducible refine (term_Check.calls k4 ((rd_T43 (rd_L3 l0_1 x42_3) x54_4).f0) ((rd_T43 (rd_L3 l0_1 x42_3) x54_4).f1) ((rd_T43 (rd_L3 l0_1 x42_3) x54_4).f2) ((rd_T43 (rd_L3 l0_1 x42_3) x54_4).f3) t121 _ A35.out).mono ?_); rintro e w44 ⟨rfl, hb⟩; have n0_ := Aside0.mk (blk_below (g := gb113) (o := .cells #[.slice A0_0 l0_0.length c0_0, .slice (some ad118) l0_1.length c0_1] 25 (0, 0)) (by (with_reducible repeat (fail)); refine blk_far ?_ NB113_120.out _; (with_reducible repeat (fail)); refine blk_far ?_ NB113_120.out _; (with_reducible repeat (fail)); refine blk_far ?_ NB113_120.out _; (with_reducible repeat (fail)); refine blk_far ?_ NB113_120.out _; (with_reducible repeat (fail)); exact BK113.out) hb); have n1_ := Aside0.mk (blk_below (g := gb120) (o := .cells #[.int .i64 ((rd_T43 (rd_L3 l0_1 x42_3) x54_4).f0), .string ((rd_T43 (rd_L3 l0_1 x42_3) x54_4).f1), .string ((rd_T43 (rd_L3 l0_1 x42_3) x54_4).f2), .string ((rd_T43 (rd_L3 l0_1 x42_3) x54_4).f3)] 43 (0, 0)) (by (with_reducible repeat (fail)); refine blk_put (cs := #[.int .i64 ((rd_T43 (rd_L3 l0_1 x42_3) x54_4).f0), .string ((rd_T43 (rd_L3 l0_1 x42_3) x54_4).f1), .string ((rd_T43 (rd_L3 l0_1 x42_3) x54_4).f2), .string (⟨#[]⟩ : ByteArray)]) ?_ 3 _ rfl; (with_reducible repeat (fail)); refine blk_put (cs := #[.int .i64 ((rd_T43 (rd_L3 l0_1 x42_3) x54_4).f0), .string ((rd_T43 (rd_L3 l0_1 x42_3) x54_4).f1), .string (⟨#[]⟩ : ByteArray), .string (⟨#[]⟩ : ByteArray)]) ?_ 2 _ rfl; (with_reducible repeat (fail)); refine blk_put (cs := #[.int .i64 ((rd_T43 (rd_L3 l0_1 x42_3) x54_4).f0), .string (⟨#[]⟩ : ByteArray), .string (⟨#[]⟩ : ByteArray), .string (⟨#[]⟩ : ByteArray)]) ?_ 1 _ rfl; (with_reducible repeat (fail)); refine blk_put (cs := #[.int .i64 0, .string (⟨#[]⟩ : ByteArray), .string (⟨#[]⟩ : ByteArray), .string (⟨#[]⟩ : ByteArray)]) ?_ 0 _ rfl; (with_reducible repeat (fail)); exact BK120.out) hb); have n2_ := Aside0.mk (below_step (by repeat ((with_reducible first | exact HB.out | refine below_set ?_ GE120.out))) hb); clear BK113; clear BK120; clear HB; have BK113 := n0_; have BK120 := n1_; have HB := n2_; clear n0_ n1_ n2_; (try clear hb)))
                                go_ret
                                exact ⟨by rfl, by repeat ((with_reducible exact HB.out))⟩
                              rw [if_neg c30] at H
                              exact absurd H (by simp)
                            rw [if_neg c29] at H
                            exact absurd H (by simp)
                          rw [if_neg c28] at H
                          have c28b0 : decide (x54_4 < ((rd_L3 l0_1 x42_3).length : Int)) = false := decide_eq_false c28
                          clear c28
                          have H' := Aside0.mk H
                          clear H
                          go_wp2
                          go_roundg k4
                          case measure => have := HJ1.out; have := HK2.out; have := HK3.out; have := HK4.out; omega
                          case rel => exact ⟨(wrap64 (x42_3 + 1)), (by rfl), H', ⟨by have := HJ1.out; have := HK2.out; have := HK3.out; have := HK4.out; omega⟩, ⟨by (with_reducible repeat (fail)); exact BK113.out⟩, ⟨by repeat ((with_reducible exact HB.out))⟩⟩
                    rw [if_neg c26] at H
                    have c26b0 : (((rd_L3 l0_1 x42_3).length : Int) == (l0_0.length : Int)) = false := beq_eq_false_iff_ne.mpr c26
                    have c26b1 : (((rd_L3 l0_1 x42_3).length : Int) != (l0_0.length : Int)) = true := bne_iff_ne.mpr c26
                    have c26b2 : ((rd_L3 l0_1 x42_3).length == l0_0.length) = false := by (simp at c26 ⊢; omega)
                    obtain rfl := Option.some.inj H
                    have p118 : 0 ≤ (x42_3 : Int) := of_decide_eq_true (by (with_reducible assumption))
                    have q118 : x42_3 < (l0_1.length : Int) := of_decide_eq_true (by (with_reducible assumption))
                    obtain ⟨ad118, A118_0, c118_0, e118, hx118_0, hl118_0, hi118_0⟩ := at_L3 HR0_1.out x42_3 p118 q118
                    cases e118
                    replace hx118_0 := (HB.out.cell (World.block_lt_of_cell? w _ hx118_0)).trans hx118_0
                    have HR118_0 := Aside0.mk hi118_0
                    have HC118_0 := Aside0.mk hl118_0
                    clear hi118_0 hl118_0
                    replace p118 := eq_true p118
                    replace q118 := eq_true q118
                    have hcz45_0 : wr.cell? ⟨gb113, 0, none⟩ = some (.slice A0_0 l0_0.length c0_0) := (blk_cell BK113.out 0).trans rfl
                    have hcz45_1 : wr.cell? ⟨gb113, 1, none⟩ = some (.slice (some ad118) l0_1.length c0_1) := (blk_cell BK113.out 1).trans rfl
                    have hfz45_0 := blk_frozen BK113.out 0
                    have hfz45_1 := blk_frozen BK113.out 1
                    go_wp2
                    go_ret
                    exact ⟨by rfl, by repeat ((with_reducible exact HB.out))⟩
                  rw [if_neg c25] at H
                  exact absurd H (by simp)
                rw [if_neg c24] at H
                exact absurd H (by simp)
              rw [if_neg c23] at H
              have c23b0 : decide (x42_3 < (l0_1.length : Int)) = false := decide_eq_false c23
              clear c23
              obtain rfl := Option.some.inj H
              go_wp2
              go_ret
              exact ⟨by rfl, by repeat ((with_reducible exact HB.out))⟩
def result_empty.f (l0_0 : List ByteArray) (l0_1 : List (List (S43))) : Option (Bool) := if (l0_0.length : Int) = 0 then (some ((l0_1.length : Int) == 0)) else (some false)
set_option maxHeartbeats 8000000 in
set_option maxRecDepth 100000 in
theorem result_empty.calls (A0_0 : Option Addr) (c0_0 : Nat) (l0_0 : List ByteArray) (A0_1 : Option Addr) (c0_1 : Nat) (l0_1 : List (List (S43))) (r : Bool) (w : World) (hr0_0 : Kd.C Kd.string w A0_0 l0_0.length l0_0) (hc0_0 : l0_0.length ≤ c0_0) (hr0_1 : Kd.C (Kd.slice 43 k43) w A0_1 l0_1.length l0_1) (hc0_1 : l0_1.length ≤ c0_1) (h : result_empty.f l0_0 l0_1 = some r) :
    Calls Tryd.prog 27 #[.agg #[.slice A0_0 l0_0.length c0_0, .slice A0_1 l0_1.length c0_1]] w fun e w' => e = .returned (.bool r) ∧ Below w.heap.size w w' := by
  have hu25 := Tryd.underlying25
  have HR0_0 := Aside0.mk hr0_0
  have HC0_0 := Aside0.mk hc0_0
  clear hr0_0 hc0_0
  have HR0_1 := Aside0.mk hr0_1
  have HC0_1 := Aside0.mk hc0_1
  clear hr0_1 hc0_1
  have HB := Aside0.mk (Below.refl w.heap.size w)
  have H : (if (l0_0.length : Int) = 0 then (some ((l0_1.length : Int) == 0)) else (some false)) = some r := h
  clear h
  by_cases c2 : (l0_0.length : Int) = 0
  · rw [if_pos c2] at H
    have c2b0 : ((l0_0.length : Int) == 0) = true := beq_iff_eq.mpr c2
    have c2b1 : ((l0_0.length : Int) != 0) = false := bne_eq_false_iff_eq.mpr c2
    clear c2
    obtain rfl := Option.some.inj H
    go_enter Tryd.func27, Tryd.ntmps27
    go_wp2_with (((with_reducible refine gate_dst (N := 1) rfl ?_); (try (refine gate_guard (by rfl) ?_; dsimp only)); refine box_event ?hg (N := 1) ?hd (cs := #[.slice A0_0 l0_0.length c0_0, .slice A0_1 l0_1.length c0_1]) (t := 25) ?hr ?_; (case hd => rfl); (case hg => rfl); (case hr => (go_simp; done)); intro gb122 hg w3 hbox hb; have n0_ := Aside0.mk (below_step (by repeat ((with_reducible exact HB.out))) hb); have n1_ := Aside0.mk (hbox); have n2_ := Aside0.mk ((by rw [hg]; exact (below_size (by repeat ((with_reducible exact HB.out)))) : w.heap.size ≤ gb122)); have n3_ := Aside0.mk ((by rw [hg]; exact (below_size (by repeat ((with_reducible exact HB.out)))) : w.heap.size ≤ gb122)); clear HB; have HB := n0_; have BK122 := n1_; have GW122 := n2_; have GE122 := n3_; clear n0_ n1_ n2_ n3_; clear hb hbox hg; have hcz4_0 : w3.cell? ⟨gb122, 0, none⟩ = some (.slice A0_0 l0_0.length c0_0) := (blk_cell BK122.out 0).trans rfl; have hcz4_1 : w3.cell? ⟨gb122, 1, none⟩ = some (.slice A0_1 l0_1.length c0_1) := (blk_cell BK122.out 1).trans rfl; have hfz4_0 := blk_frozen BK122.out 0; have hfz4_1 := blk_frozen BK122.out 1))
    go_ret
    exact ⟨by rfl, by repeat ((with_reducible exact HB.out))⟩
  rw [if_neg c2] at H
  have c2b0 : ((l0_0.length : Int) == 0) = false := beq_eq_false_iff_ne.mpr c2
  have c2b1 : ((l0_0.length : Int) != 0) = true := bne_iff_ne.mpr c2
  have c2b2 : ¬ (l0_0 = []) := fun h_ => c2 (by rw [h_]; rfl)
  obtain rfl := Option.some.inj H
  go_enter Tryd.func27, Tryd.ntmps27
  go_wp2_with (((with_reducible refine gate_dst (N := 1) rfl ?_); (try (refine gate_guard (by rfl) ?_; dsimp only)); refine box_event ?hg (N := 1) ?hd (cs := #[.slice A0_0 l0_0.length c0_0, .slice A0_1 l0_1.length c0_1]) (t := 25) ?hr ?_; (case hd => rfl); (case hg => rfl); (case hr => (go_simp; done)); intro gb122 hg w5 hbox hb; have n0_ := Aside0.mk (below_step (by repeat ((with_reducible exact HB.out))) hb); have n1_ := Aside0.mk (hbox); have n2_ := Aside0.mk ((by rw [hg]; exact (below_size (by repeat ((with_reducible exact HB.out)))) : w.heap.size ≤ gb122)); have n3_ := Aside0.mk ((by rw [hg]; exact (below_size (by repeat ((with_reducible exact HB.out)))) : w.heap.size ≤ gb122)); clear HB; have HB := n0_; have BK122 := n1_; have GW122 := n2_; have GE122 := n3_; clear n0_ n1_ n2_ n3_; clear hb hbox hg; have hcz6_0 : w5.cell? ⟨gb122, 0, none⟩ = some (.slice A0_0 l0_0.length c0_0) := (blk_cell BK122.out 0).trans rfl; have hcz6_1 : w5.cell? ⟨gb122, 1, none⟩ = some (.slice A0_1 l0_1.length c0_1) := (blk_cell BK122.out 1).trans rfl; have hfz6_0 := blk_frozen BK122.out 0; have hfz6_1 := blk_frozen BK122.out 1))
  go_ret
  exact ⟨by rfl, by repeat ((with_reducible exact HB.out))⟩
end Go.Proofs.YtgabadlneeffkaaDoor.S
