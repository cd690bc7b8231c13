-- Written by lp.py: a program of this session's over the kit's printer. Not trusted: Lean checks it.
import Derived.Test.YtgabadlneeffkaaGreatDoorKDx0
import Derived.Test.YtgabadlneeffkaaGreatDoorKDx9
namespace Go.Proofs.YtgabadlneeffkaaGreatDoor.C
open Go.RowKit Go.Proofs.YtgabadlneeffkaaGreatDoorW.PrintWords Go.Proofs.YtgabadlneeffkaaGreatDoorW.PrintLast Go.Proofs.YtgabadlneeffkaaGreatDoorW.PrintMore
attribute [local go_sem] max2_int min2_int max_two min_two max_three min_three max_four min_four
set_option linter.unusedVariables false
set_option linter.unusedSimpArgs false
mutual
def legationref17_Check.j0 : Nat → Bool → Int → Int → List ByteArray → List (List (S43)) → Bool → Int → Option (Int)
  | 0, _, _, _, _, _, _, _ => none
  | k + 1, x36, x174000, x174001, x174002, x174003, x174004, x174005 => if x36 = true then (some 1) else (if (x174002.length : Int) = 0 then (legationref17_Check.j1 k ((x174003.length : Int) == 0) x174000 x174001 x174002 x174003 x174004 x174005) else (legationref17_Check.j1 k false x174000 x174001 x174002 x174003 x174004 x174005))
def legationref17_Check.j1 : Nat → Bool → Int → Int → List ByteArray → List (List (S43)) → Bool → Int → Option (Int)
  | 0, _, _, _, _, _, _, _ => none
  | k + 1, x3, x174000, x174001, x174002, x174003, x174004, x174005 => if x174001 = 1 then (if x174004 = true then (legationref17_Check.j2 k true x174000 x174001 x174002 x174003 x174004 x174005) else (if x174005 = 0 then ((legationref17_rightRows.f k x174002 x174003).bind fun t174 => (if t174 = true then (if x174001 = 2 then (if x3 = true then (if x174001 = 3 then (legationref17_Check.j2 k x174004 x174000 x174001 x174002 x174003 x174004 x174005) else (legationref17_Check.j2 k false x174000 x174001 x174002 x174003 x174004 x174005)) else (legationref17_Check.j2 k true x174000 x174001 x174002 x174003 x174004 x174005)) else (if x174001 = 3 then (if x3 = true then (legationref17_Check.j2 k x174004 x174000 x174001 x174002 x174003 x174004 x174005) else (legationref17_Check.j2 k true x174000 x174001 x174002 x174003 x174004 x174005)) else (legationref17_Check.j2 k false x174000 x174001 x174002 x174003 x174004 x174005))) else (legationref17_Check.j2 k true x174000 x174001 x174002 x174003 x174004 x174005))) else (legationref17_Check.j2 k true x174000 x174001 x174002 x174003 x174004 x174005))) else (if x174001 = 2 then (if x3 = true then (if x174005 = 0 then (if x174001 = 3 then (legationref17_Check.j2 k x174004 x174000 x174001 x174002 x174003 x174004 x174005) else (legationref17_Check.j2 k false x174000 x174001 x174002 x174003 x174004 x174005)) else (legationref17_Check.j2 k true x174000 x174001 x174002 x174003 x174004 x174005)) else (legationref17_Check.j2 k true x174000 x174001 x174002 x174003 x174004 x174005)) else (if x174001 = 3 then (if x3 = true then (legationref17_Check.j2 k x174004 x174000 x174001 x174002 x174003 x174004 x174005) else (legationref17_Check.j2 k true x174000 x174001 x174002 x174003 x174004 x174005)) else (legationref17_Check.j2 k false x174000 x174001 x174002 x174003 x174004 x174005)))
def legationref17_Check.j2 : Nat → Bool → Int → Int → List ByteArray → List (List (S43)) → Bool → Int → Option (Int)
  | 0, _, _, _, _, _, _, _ => none
  | k + 1, x93, x174000, x174001, x174002, x174003, x174004, x174005 => if x93 = true then (some 2) else (if (x174003.length : Int) > 1024 then (some 3) else (some 0))
end
def legationref17_Check.f (k : Nat) (a0_0 : Int) (a0_1 : Int) (l0_2 : List ByteArray) (l0_3 : List (List (S43))) (a0_4 : Bool) (a0_5 : Int) : Option (Int) := if a0_0 < 0 then (legationref17_Check.j0 k true a0_0 a0_1 l0_2 l0_3 a0_4 a0_5) else (if a0_0 ≥ 4096 then (legationref17_Check.j0 k true a0_0 a0_1 l0_2 l0_3 a0_4 a0_5) else (if a0_1 < 1 then (legationref17_Check.j0 k true a0_0 a0_1 l0_2 l0_3 a0_4 a0_5) else (if a0_1 > 3 then (legationref17_Check.j0 k true a0_0 a0_1 l0_2 l0_3 a0_4 a0_5) else (if a0_1 = 3 then (if a0_5 < 1 then (legationref17_Check.j0 k true a0_0 a0_1 l0_2 l0_3 a0_4 a0_5) else (legationref17_Check.j0 k (decide (a0_5 > 9)) a0_0 a0_1 l0_2 l0_3 a0_4 a0_5)) else (legationref17_Check.j0 k false a0_0 a0_1 l0_2 l0_3 a0_4 a0_5)))))
set_option maxHeartbeats 8000000 in
set_option maxRecDepth 100000 in
theorem legationref17_Check.calls (k : Nat) (a0_0 : Int) (a0_1 : Int) (A0_2 : Option Addr) (c0_2 : Nat) (l0_2 : List ByteArray) (A0_3 : Option Addr) (c0_3 : Nat) (l0_3 : List (List (S43))) (a0_4 : Bool) (a0_5 : Int) (r : Int) (w : World) (hr0_2 : Kd.C Kd.string w A0_2 l0_2.length l0_2) (hc0_2 : l0_2.length ≤ c0_2) (hr0_3 : Kd.C (Kd.slice 43 k43) w A0_3 l0_3.length l0_3) (hc0_3 : l0_3.length ≤ c0_3) (h : legationref17_Check.f k a0_0 a0_1 l0_2 l0_3 a0_4 a0_5 = some r) :
    Calls Tryz.prog 7 #[.agg #[.int .i64 a0_0, .int .i64 a0_1, .slice A0_2 l0_2.length c0_2, .slice A0_3 l0_3.length c0_3, .bool a0_4, .int .i64 a0_5]] w fun e w' => e = .returned (.int .i64 r) ∧ Below w.heap.size w w' := by
  have hu28 := Tryz.underlying28
  have hu25 := Tryz.underlying25
  have HR0_2 := Aside0.mk hr0_2
  have HC0_2 := Aside0.mk hc0_2
  clear hr0_2 hc0_2
  have HR0_3 := Aside0.mk hr0_3
  have HC0_3 := Aside0.mk hc0_3
  clear hr0_3 hc0_3
  have HB := Aside0.mk (Below.refl w.heap.size w)
  have H : (if a0_0 < 0 then (legationref17_Check.j0 k true a0_0 a0_1 l0_2 l0_3 a0_4 a0_5) else (if a0_0 ≥ 4096 then (legationref17_Check.j0 k true a0_0 a0_1 l0_2 l0_3 a0_4 a0_5) else (if a0_1 < 1 then (legationref17_Check.j0 k true a0_0 a0_1 l0_2 l0_3 a0_4 a0_5) else (if a0_1 > 3 then (legationref17_Check.j0 k true a0_0 a0_1 l0_2 l0_3 a0_4 a0_5) else (if a0_1 = 3 then (if a0_5 < 1 then (legationref17_Check.j0 k true a0_0 a0_1 l0_2 l0_3 a0_4 a0_5) else (legationref17_Check.j0 k (decide (a0_5 > 9)) a0_0 a0_1 l0_2 l0_3 a0_4 a0_5)) else (legationref17_Check.j0 k false a0_0 a0_1 l0_2 l0_3 a0_4 a0_5)))))) = some r := h
  clear h
  have HC2 := Aside0.mk H
  clear H
  go_enter Tryz.func7, Tryz.ntmps7
  go_upto_region 1 with (((with_reducible refine gate_dst (N := 1) rfl ?_); (try (refine gate_guard (by rfl) ?_; dsimp only)); refine box_event ?hg (N := 1) ?hd (cs := #[.int .i64 a0_0, .int .i64 a0_1, .slice A0_2 l0_2.length c0_2, .slice A0_3 l0_3.length c0_3, .bool a0_4, .int .i64 a0_5]) (t := 28) ?hr ?_; (case hd => rfl); (case hg => rfl); (case hr => (go_simp; done)); intro gb173 hg w3 hbox hb; have n0_ := Aside0.mk (below_step (by repeat ((with_reducible exact HB.out))) hb); have n1_ := Aside0.mk (hbox); have n2_ := Aside0.mk ((by rw [hg]; exact (below_size (by repeat ((with_reducible exact HB.out)))) : w.heap.size ≤ gb173)); have n3_ := Aside0.mk ((by rw [hg]; exact (below_size (by repeat ((with_reducible exact HB.out)))) : w.heap.size ≤ gb173)); clear HB; have HB := n0_; have BK173 := n1_; have GW173 := n2_; have GE173 := n3_; clear n0_ n1_ n2_ n3_; clear hb hbox hg))
  go_cut [36] (fun v36 wc => ∃ (kq : Nat) (x36_1 : Bool), v36 = .bool x36_1 ∧ Aside0 (legationref17_Check.j0 kq x36_1 a0_0 a0_1 l0_2 l0_3 a0_4 a0_5 = some r) ∧ Aside0 (kq ≤ k) ∧ Aside0 (wc.heap[gb173]? = some (.cells #[.int .i64 a0_0, .int .i64 a0_1, (.slice A0_2 l0_2.length c0_2), (.slice A0_3 l0_3.length c0_3), .bool a0_4, .int .i64 a0_5] 28 (0, 0))) ∧ Aside0 (Below w.heap.size w wc))
  case first =>
    have H := HC2.out
    clear HC2
    by_cases c4 : a0_0 < 0
    · rw [if_pos c4] at H
      have c4b0 : decide (a0_0 < 0) = true := decide_eq_true c4
      clear c4
      have H' := Aside0.mk H
      clear H
      have hcz5_0 : w3.cell? ⟨gb173, 0, none⟩ = some (.int .i64 a0_0) := (blk_cell BK173.out 0).trans rfl
      have hcz5_1 : w3.cell? ⟨gb173, 1, none⟩ = some (.int .i64 a0_1) := (blk_cell BK173.out 1).trans rfl
      have hcz5_2 : w3.cell? ⟨gb173, 2, none⟩ = some (.slice A0_2 l0_2.length c0_2) := (blk_cell BK173.out 2).trans rfl
      have hcz5_3 : w3.cell? ⟨gb173, 3, none⟩ = some (.slice A0_3 l0_3.length c0_3) := (blk_cell BK173.out 3).trans rfl
      have hcz5_4 : w3.cell? ⟨gb173, 4, none⟩ = some (.bool a0_4) := (blk_cell BK173.out 4).trans rfl
      have hcz5_5 : w3.cell? ⟨gb173, 5, none⟩ = some (.int .i64 a0_5) := (blk_cell BK173.out 5).trans rfl
      have hfz5_0 := blk_frozen BK173.out 0
      have hfz5_1 := blk_frozen BK173.out 1
      have hfz5_2 := blk_frozen BK173.out 2
      have hfz5_3 := blk_frozen BK173.out 3
      have hfz5_4 := blk_frozen BK173.out 4
      have hfz5_5 := blk_frozen BK173.out 5
      go_wp2
      go_meet
      case rel => exact ⟨_, (true), (by rfl), H', ⟨by omega⟩, ⟨by (with_reducible repeat (fail)); exact BK173.out⟩, ⟨by repeat ((with_reducible exact HB.out))⟩⟩
    rw [if_neg c4] at H
    have c4b0 : decide (a0_0 < 0) = false := decide_eq_false c4
    clear c4
    by_cases c6 : a0_0 ≥ 4096
    · rw [if_pos c6] at H
      have c6b0 : decide (4096 ≤ a0_0) = true := decide_eq_true c6
      clear c6
      have H' := Aside0.mk H
      clear H
      have hcz7_0 : w3.cell? ⟨gb173, 0, none⟩ = some (.int .i64 a0_0) := (blk_cell BK173.out 0).trans rfl
      have hcz7_1 : w3.cell? ⟨gb173, 1, none⟩ = some (.int .i64 a0_1) := (blk_cell BK173.out 1).trans rfl
      have hcz7_2 : w3.cell? ⟨gb173, 2, none⟩ = some (.slice A0_2 l0_2.length c0_2) := (blk_cell BK173.out 2).trans rfl
      have hcz7_3 : w3.cell? ⟨gb173, 3, none⟩ = some (.slice A0_3 l0_3.length c0_3) := (blk_cell BK173.out 3).trans rfl
      have hcz7_4 : w3.cell? ⟨gb173, 4, none⟩ = some (.bool a0_4) := (blk_cell BK173.out 4).trans rfl
      have hcz7_5 : w3.cell? ⟨gb173, 5, none⟩ = some (.int .i64 a0_5) := (blk_cell BK173.out 5).trans rfl
      have hfz7_0 := blk_frozen BK173.out 0
      have hfz7_1 := blk_frozen BK173.out 1
      have hfz7_2 := blk_frozen BK173.out 2
      have hfz7_3 := blk_frozen BK173.out 3
      have hfz7_4 := blk_frozen BK173.out 4
      have hfz7_5 := blk_frozen BK173.out 5
      go_wp2
      go_meet
      case rel => exact ⟨_, (true), (by rfl), H', ⟨by omega⟩, ⟨by (with_reducible repeat (fail)); exact BK173.out⟩, ⟨by repeat ((with_reducible exact HB.out))⟩⟩
    rw [if_neg c6] at H
    have c6b0 : decide (4096 ≤ a0_0) = false := decide_eq_false c6
    clear c6
    by_cases c8 : a0_1 < 1
    · rw [if_pos c8] at H
      have c8b0 : decide (a0_1 < 1) = true := decide_eq_true c8
      clear c8
      have H' := Aside0.mk H
      clear H
      have hcz9_0 : w3.cell? ⟨gb173, 0, none⟩ = some (.int .i64 a0_0) := (blk_cell BK173.out 0).trans rfl
      have hcz9_1 : w3.cell? ⟨gb173, 1, none⟩ = some (.int .i64 a0_1) := (blk_cell BK173.out 1).trans rfl
      have hcz9_2 : w3.cell? ⟨gb173, 2, none⟩ = some (.slice A0_2 l0_2.length c0_2) := (blk_cell BK173.out 2).trans rfl
      have hcz9_3 : w3.cell? ⟨gb173, 3, none⟩ = some (.slice A0_3 l0_3.length c0_3) := (blk_cell BK173.out 3).trans rfl
      have hcz9_4 : w3.cell? ⟨gb173, 4, none⟩ = some (.bool a0_4) := (blk_cell BK173.out 4).trans rfl
      have hcz9_5 : w3.cell? ⟨gb173, 5, none⟩ = some (.int .i64 a0_5) := (blk_cell BK173.out 5).trans rfl
      have hfz9_0 := blk_frozen BK173.out 0
      have hfz9_1 := blk_frozen BK173.out 1
      have hfz9_2 := blk_frozen BK173.out 2
      have hfz9_3 := blk_frozen BK173.out 3
      have hfz9_4 := blk_frozen BK173.out 4
      have hfz9_5 := blk_frozen BK173.out 5
      go_wp2
      go_meet
      case rel => exact ⟨_, (true), (by rfl), H', ⟨by omega⟩, ⟨by (with_reducible repeat (fail)); exact BK173.out⟩, ⟨by repeat ((with_reducible exact HB.out))⟩⟩
    rw [if_neg c8] at H
    have c8b0 : decide (a0_1 < 1) = false := decide_eq_false c8
    clear c8
    by_cases c10 : a0_1 > 3
    · rw [if_pos c10] at H
      have c10b0 : decide (3 < a0_1) = true := decide_eq_true c10
      clear c10
      have H' := Aside0.mk H
      clear H
      have hcz11_0 : w3.cell? ⟨gb173, 0, none⟩ = some (.int .i64 a0_0) := (blk_cell BK173.out 0).trans rfl
      have hcz11_1 : w3.cell? ⟨gb173, 1, none⟩ = some (.int .i64 a0_1) := (blk_cell BK173.out 1).trans rfl
      have hcz11_2 : w3.cell? ⟨gb173, 2, none⟩ = some (.slice A0_2 l0_2.length c0_2) := (blk_cell BK173.out 2).trans rfl
      have hcz11_3 : w3.cell? ⟨gb173, 3, none⟩ = some (.slice A0_3 l0_3.length c0_3) := (blk_cell BK173.out 3).trans rfl
      have hcz11_4 : w3.cell? ⟨gb173, 4, none⟩ = some (.bool a0_4) := (blk_cell BK173.out 4).trans rfl
      have hcz11_5 : w3.cell? ⟨gb173, 5, none⟩ = some (.int .i64 a0_5) := (blk_cell BK173.out 5).trans rfl
      have hfz11_0 := blk_frozen BK173.out 0
      have hfz11_1 := blk_frozen BK173.out 1
      have hfz11_2 := blk_frozen BK173.out 2
      have hfz11_3 := blk_frozen BK173.out 3
      have hfz11_4 := blk_frozen BK173.out 4
      have hfz11_5 := blk_frozen BK173.out 5
      go_wp2
      go_meet
      case rel => exact ⟨_, (true), (by rfl), H', ⟨by omega⟩, ⟨by (with_reducible repeat (fail)); exact BK173.out⟩, ⟨by repeat ((with_reducible exact HB.out))⟩⟩
    rw [if_neg c10] at H
    have c10b0 : decide (3 < a0_1) = false := decide_eq_false c10
    clear c10
    by_cases c12 : a0_1 = 3
    · rw [if_pos c12] at H
      have c12b0 : (a0_1 == 3) = true := beq_iff_eq.mpr c12
      have c12b1 : (a0_1 != 3) = false := bne_eq_false_iff_eq.mpr c12
      clear c12
      by_cases c13 : a0_5 < 1
      · rw [if_pos c13] at H
        have c13b0 : decide (a0_5 < 1) = true := decide_eq_true c13
        clear c13
        have H' := Aside0.mk H
        clear H
        have hcz14_0 : w3.cell? ⟨gb173, 0, none⟩ = some (.int .i64 a0_0) := (blk_cell BK173.out 0).trans rfl
        have hcz14_1 : w3.cell? ⟨gb173, 1, none⟩ = some (.int .i64 a0_1) := (blk_cell BK173.out 1).trans rfl
        have hcz14_2 : w3.cell? ⟨gb173, 2, none⟩ = some (.slice A0_2 l0_2.length c0_2) := (blk_cell BK173.out 2).trans rfl
        have hcz14_3 : w3.cell? ⟨gb173, 3, none⟩ = some (.slice A0_3 l0_3.length c0_3) := (blk_cell BK173.out 3).trans rfl
        have hcz14_4 : w3.cell? ⟨gb173, 4, none⟩ = some (.bool a0_4) := (blk_cell BK173.out 4).trans rfl
        have hcz14_5 : w3.cell? ⟨gb173, 5, none⟩ = some (.int .i64 a0_5) := (blk_cell BK173.out 5).trans rfl
        have hfz14_0 := blk_frozen BK173.out 0
        have hfz14_1 := blk_frozen BK173.out 1
        have hfz14_2 := blk_frozen BK173.out 2
        have hfz14_3 := blk_frozen BK173.out 3
        have hfz14_4 := blk_frozen BK173.out 4
        have hfz14_5 := blk_frozen BK173.out 5
        go_wp2
        go_meet
        case rel => exact ⟨_, (true), (by rfl), H', ⟨by omega⟩, ⟨by (with_reducible repeat (fail)); exact BK173.out⟩, ⟨by repeat ((with_reducible exact HB.out))⟩⟩
      rw [if_neg c13] at H
      have c13b0 : decide (a0_5 < 1) = false := decide_eq_false c13
      clear c13
      have H' := Aside0.mk H
      clear H
      have hcz15_0 : w3.cell? ⟨gb173, 0, none⟩ = some (.int .i64 a0_0) := (blk_cell BK173.out 0).trans rfl
      have hcz15_1 : w3.cell? ⟨gb173, 1, none⟩ = some (.int .i64 a0_1) := (blk_cell BK173.out 1).trans rfl
      have hcz15_2 : w3.cell? ⟨gb173, 2, none⟩ = some (.slice A0_2 l0_2.length c0_2) := (blk_cell BK173.out 2).trans rfl
      have hcz15_3 : w3.cell? ⟨gb173, 3, none⟩ = some (.slice A0_3 l0_3.length c0_3) := (blk_cell BK173.out 3).trans rfl
      have hcz15_4 : w3.cell? ⟨gb173, 4, none⟩ = some (.bool a0_4) := (blk_cell BK173.out 4).trans rfl
      have hcz15_5 : w3.cell? ⟨gb173, 5, none⟩ = some (.int .i64 a0_5) := (blk_cell BK173.out 5).trans rfl
      have hfz15_0 := blk_frozen BK173.out 0
      have hfz15_1 := blk_frozen BK173.out 1
      have hfz15_2 := blk_frozen BK173.out 2
      have hfz15_3 := blk_frozen BK173.out 3
      have hfz15_4 := blk_frozen BK173.out 4
      have hfz15_5 := blk_frozen BK173.out 5
      go_wp2
      go_meet
      case rel => exact ⟨_, (decide (a0_5 > 9)), (by rfl), H', ⟨by omega⟩, ⟨by (with_reducible repeat (fail)); exact BK173.out⟩, ⟨by repeat ((with_reducible exact HB.out))⟩⟩
    rw [if_neg c12] at H
    have c12b0 : (a0_1 == 3) = false := beq_eq_false_iff_ne.mpr c12
    have c12b1 : (a0_1 != 3) = true := bne_iff_ne.mpr c12
    have H' := Aside0.mk H
    clear H
    have hcz16_0 : w3.cell? ⟨gb173, 0, none⟩ = some (.int .i64 a0_0) := (blk_cell BK173.out 0).trans rfl
    have hcz16_1 : w3.cell? ⟨gb173, 1, none⟩ = some (.int .i64 a0_1) := (blk_cell BK173.out 1).trans rfl
    have hcz16_2 : w3.cell? ⟨gb173, 2, none⟩ = some (.slice A0_2 l0_2.length c0_2) := (blk_cell BK173.out 2).trans rfl
    have hcz16_3 : w3.cell? ⟨gb173, 3, none⟩ = some (.slice A0_3 l0_3.length c0_3) := (blk_cell BK173.out 3).trans rfl
    have hcz16_4 : w3.cell? ⟨gb173, 4, none⟩ = some (.bool a0_4) := (blk_cell BK173.out 4).trans rfl
    have hcz16_5 : w3.cell? ⟨gb173, 5, none⟩ = some (.int .i64 a0_5) := (blk_cell BK173.out 5).trans rfl
    have hfz16_0 := blk_frozen BK173.out 0
    have hfz16_1 := blk_frozen BK173.out 1
    have hfz16_2 := blk_frozen BK173.out 2
    have hfz16_3 := blk_frozen BK173.out 3
    have hfz16_4 := blk_frozen BK173.out 4
    have hfz16_5 := blk_frozen BK173.out 5
    go_wp2
    go_meet
    case rel => exact ⟨_, (false), (by rfl), H', ⟨by omega⟩, ⟨by (with_reducible repeat (fail)); exact BK173.out⟩, ⟨by repeat ((with_reducible exact HB.out))⟩⟩
  case rest =>
    clear HC2
    obtain ⟨kq, x36_1, rfl, HA, HJ1, BK173, HB⟩ := hcut
    cases kq with
    | zero => exact absurd HA.out (by simp [legationref17_Check.j0])
    | succ kj1 =>
      have H := HA.out
      clear HA
      simp only [legationref17_Check.j0] at H
      by_cases c17 : x36_1 = true
      · subst c17
        have H1 : (some 1) = some r := by rw [if_pos rfl] at H; exact H
        clear H
        have H := H1
        clear H1
        obtain rfl := Option.some.inj H
        go_wp2
        go_ret
        exact ⟨by rfl, by repeat ((with_reducible exact HB.out))⟩
      replace c17 := Bool.eq_false_iff.mpr c17
      subst c17
      have H1 : (if (l0_2.length : Int) = 0 then (legationref17_Check.j1 kj1 ((l0_3.length : Int) == 0) a0_0 a0_1 l0_2 l0_3 a0_4 a0_5) else (legationref17_Check.j1 kj1 false a0_0 a0_1 l0_2 l0_3 a0_4 a0_5)) = some r := by rw [if_neg (show ¬ (false = true) by decide)] at H; exact H
      clear H
      have H := H1
      clear H1
      have HC18 := Aside0.mk H
      clear H
      go_upto_region 3 with (fail)
      go_cut [3] (fun v3 wc => ∃ (kq : Nat) (x3_17 : Bool), v3 = .bool x3_17 ∧ Aside0 (legationref17_Check.j1 kq x3_17 a0_0 a0_1 l0_2 l0_3 a0_4 a0_5 = some r) ∧ Aside0 (kq ≤ kj1) ∧ Aside0 (wc.heap[gb173]? = some (.cells #[.int .i64 a0_0, .int .i64 a0_1, (.slice A0_2 l0_2.length c0_2), (.slice A0_3 l0_3.length c0_3), .bool a0_4, .int .i64 a0_5] 28 (0, 0))) ∧ Aside0 (Below w.heap.size w wc))
      case first =>
        have H := HC18.out
        clear HC18
        by_cases c19 : (l0_2.length : Int) = 0
        · rw [if_pos c19] at H
          have c19b0 : ((l0_2.length : Int) == 0) = true := beq_iff_eq.mpr c19
          have c19b1 : ((l0_2.length : Int) != 0) = false := bne_eq_false_iff_eq.mpr c19
          clear c19
          have H' := Aside0.mk H
          clear H
          have hcz20_0 : wc.cell? ⟨gb173, 0, none⟩ = some (.int .i64 a0_0) := (blk_cell BK173.out 0).trans rfl
          have hcz20_1 : wc.cell? ⟨gb173, 1, none⟩ = some (.int .i64 a0_1) := (blk_cell BK173.out 1).trans rfl
          have hcz20_2 : wc.cell? ⟨gb173, 2, none⟩ = some (.slice A0_2 l0_2.length c0_2) := (blk_cell BK173.out 2).trans rfl
          have hcz20_3 : wc.cell? ⟨gb173, 3, none⟩ = some (.slice A0_3 l0_3.length c0_3) := (blk_cell BK173.out 3).trans rfl
          have hcz20_4 : wc.cell? ⟨gb173, 4, none⟩ = some (.bool a0_4) := (blk_cell BK173.out 4).trans rfl
          have hcz20_5 : wc.cell? ⟨gb173, 5, none⟩ = some (.int .i64 a0_5) := (blk_cell BK173.out 5).trans rfl
          have hfz20_0 := blk_frozen BK173.out 0
          have hfz20_1 := blk_frozen BK173.out 1
          have hfz20_2 := blk_frozen BK173.out 2
          have hfz20_3 := blk_frozen BK173.out 3
          have hfz20_4 := blk_frozen BK173.out 4
          have hfz20_5 := blk_frozen BK173.out 5
          go_wp2
          go_meet
          case rel => exact ⟨_, (((l0_3.length : Int) == 0)), (by rfl), H', ⟨by have := HJ1.out; omega⟩, ⟨by (with_reducible repeat (fail)); exact BK173.out⟩, ⟨by repeat ((with_reducible exact HB.out))⟩⟩
        rw [if_neg c19] at H
        have c19b0 : ((l0_2.length : Int) == 0) = false := beq_eq_false_iff_ne.mpr c19
        have c19b1 : ((l0_2.length : Int) != 0) = true := bne_iff_ne.mpr c19
        have c19b2 : ¬ (l0_2 = []) := fun h_ => c19 (by rw [h_]; rfl)
        have H' := Aside0.mk H
        clear H
        have hcz21_0 : wc.cell? ⟨gb173, 0, none⟩ = some (.int .i64 a0_0) := (blk_cell BK173.out 0).trans rfl
        have hcz21_1 : wc.cell? ⟨gb173, 1, none⟩ = some (.int .i64 a0_1) := (blk_cell BK173.out 1).trans rfl
        have hcz21_2 : wc.cell? ⟨gb173, 2, none⟩ = some (.slice A0_2 l0_2.length c0_2) := (blk_cell BK173.out 2).trans rfl
        have hcz21_3 : wc.cell? ⟨gb173, 3, none⟩ = some (.slice A0_3 l0_3.length c0_3) := (blk_cell BK173.out 3).trans rfl
        have hcz21_4 : wc.cell? ⟨gb173, 4, none⟩ = some (.bool a0_4) := (blk_cell BK173.out 4).trans rfl
        have hcz21_5 : wc.cell? ⟨gb173, 5, none⟩ = some (.int .i64 a0_5) := (blk_cell BK173.out 5).trans rfl
        have hfz21_0 := blk_frozen BK173.out 0
        have hfz21_1 := blk_frozen BK173.out 1
        have hfz21_2 := blk_frozen BK173.out 2
        have hfz21_3 := blk_frozen BK173.out 3
        have hfz21_4 := blk_frozen BK173.out 4
        have hfz21_5 := blk_frozen BK173.out 5
        go_wp2
        go_meet
        case rel => exact ⟨_, (false), (by rfl), H', ⟨by have := HJ1.out; omega⟩, ⟨by (with_reducible repeat (fail)); exact BK173.out⟩, ⟨by repeat ((with_reducible exact HB.out))⟩⟩
      case rest =>
        clear HC18
        obtain ⟨kq, x3_17, rfl, HA, HJ17, BK173, HB⟩ := hcut
        cases kq with
        | zero => exact absurd HA.out (by simp [legationref17_Check.j1])
        | succ kj17 =>
          have H := HA.out
          clear HA
          simp only [legationref17_Check.j1] at H
          have HC22 := Aside0.mk H
          clear H
          go_upto_region 4 with (fail)
          go_cut [93] (fun v93 wc => ∃ (kq : Nat) (x93_21 : Bool), v93 = .bool x93_21 ∧ Aside0 (legationref17_Check.j2 kq x93_21 a0_0 a0_1 l0_2 l0_3 a0_4 a0_5 = some r) ∧ Aside0 (kq ≤ kj17) ∧ Aside0 (wc.heap[gb173]? = some (.cells #[.int .i64 a0_0, .int .i64 a0_1, (.slice A0_2 l0_2.length c0_2), (.slice A0_3 l0_3.length c0_3), .bool a0_4, .int .i64 a0_5] 28 (0, 0))) ∧ Aside0 (Below w.heap.size w wc))
          case first =>
            have H := HC22.out
            clear HC22
            by_cases c23 : a0_1 = 1
            · rw [if_pos c23] at H
              have c23b0 : (a0_1 == 1) = true := beq_iff_eq.mpr c23
              have c23b1 : (a0_1 != 1) = false := bne_eq_false_iff_eq.mpr c23
              clear c23
              by_cases c24 : a0_4 = true
              · subst c24
                have H1 : (legationref17_Check.j2 kj17 true a0_0 a0_1 l0_2 l0_3 true a0_5) = some r := by rw [if_pos rfl] at H; exact H
                clear H
                have H := H1
                clear H1
                have H' := Aside0.mk H
                clear H
                have hcz25_0 : wc.cell? ⟨gb173, 0, none⟩ = some (.int .i64 a0_0) := (blk_cell BK173.out 0).trans rfl
                have hcz25_1 : wc.cell? ⟨gb173, 1, none⟩ = some (.int .i64 a0_1) := (blk_cell BK173.out 1).trans rfl
                have hcz25_2 : wc.cell? ⟨gb173, 2, none⟩ = some (.slice A0_2 l0_2.length c0_2) := (blk_cell BK173.out 2).trans rfl
                have hcz25_3 : wc.cell? ⟨gb173, 3, none⟩ = some (.slice A0_3 l0_3.length c0_3) := (blk_cell BK173.out 3).trans rfl
                have hcz25_4 : wc.cell? ⟨gb173, 4, none⟩ = some (.bool true) := (blk_cell BK173.out 4).trans rfl
                have hcz25_5 : wc.cell? ⟨gb173, 5, none⟩ = some (.int .i64 a0_5) := (blk_cell BK173.out 5).trans rfl
                have hfz25_0 := blk_frozen BK173.out 0
                have hfz25_1 := blk_frozen BK173.out 1
                have hfz25_2 := blk_frozen BK173.out 2
                have hfz25_3 := blk_frozen BK173.out 3
                have hfz25_4 := blk_frozen BK173.out 4
                have hfz25_5 := blk_frozen BK173.out 5
                go_wp2
                go_meet
                case rel => exact ⟨_, (true), (by rfl), H', ⟨by have := HJ1.out; have := HJ17.out; omega⟩, ⟨by (with_reducible repeat (fail)); exact BK173.out⟩, ⟨by repeat ((with_reducible exact HB.out))⟩⟩
              replace c24 := Bool.eq_false_iff.mpr c24
              subst c24
              have H1 : (if a0_5 = 0 then ((legationref17_rightRows.f kj17 l0_2 l0_3).bind fun t174 => (if t174 = true then (if a0_1 = 2 then (if x3_17 = true then (if a0_1 = 3 then (legationref17_Check.j2 kj17 false a0_0 a0_1 l0_2 l0_3 false a0_5) else (legationref17_Check.j2 kj17 false a0_0 a0_1 l0_2 l0_3 false a0_5)) else (legationref17_Check.j2 kj17 true a0_0 a0_1 l0_2 l0_3 false a0_5)) else (if a0_1 = 3 then (if x3_17 = true then (legationref17_Check.j2 kj17 false a0_0 a0_1 l0_2 l0_3 false a0_5) else (legationref17_Check.j2 kj17 true a0_0 a0_1 l0_2 l0_3 false a0_5)) else (legationref17_Check.j2 kj17 false a0_0 a0_1 l0_2 l0_3 false a0_5))) else (legationref17_Check.j2 kj17 true a0_0 a0_1 l0_2 l0_3 false a0_5))) else (legationref17_Check.j2 kj17 true a0_0 a0_1 l0_2 l0_3 false a0_5)) = some r := by rw [if_neg (show ¬ (false = true) by decide)] at H; exact H
              clear H
              have H := H1
              clear H1
              by_cases c26 : a0_5 = 0
              · rw [if_pos c26] at H
                have c26b0 : (a0_5 == 0) = true := beq_iff_eq.mpr c26
                have c26b1 : (a0_5 != 0) = false := bne_eq_false_iff_eq.mpr c26
                clear c26
                replace H := Option.bind_eq_some_iff.mp H
                obtain ⟨t174, A270, H⟩ := H
                replace H : (if t174 = true then (if a0_1 = 2 then (if x3_17 = true then (if a0_1 = 3 then (legationref17_Check.j2 kj17 false a0_0 a0_1 l0_2 l0_3 false a0_5) else (legationref17_Check.j2 kj17 false a0_0 a0_1 l0_2 l0_3 false a0_5)) else (legationref17_Check.j2 kj17 true a0_0 a0_1 l0_2 l0_3 false a0_5)) else (if a0_1 = 3 then (if x3_17 = true then (legationref17_Check.j2 kj17 false a0_0 a0_1 l0_2 l0_3 false a0_5) else (legationref17_Check.j2 kj17 true a0_0 a0_1 l0_2 l0_3 false a0_5)) else (legationref17_Check.j2 kj17 false a0_0 a0_1 l0_2 l0_3 false a0_5))) else (legationref17_Check.j2 kj17 true a0_0 a0_1 l0_2 l0_3 false a0_5)) = some r := H
                have A27 := Aside0.mk A270
                clear A270
                by_cases c28 : t174 = true
                · subst c28
                  have H1 : (if a0_1 = 2 then (if x3_17 = true then (if a0_1 = 3 then (legationref17_Check.j2 kj17 false a0_0 a0_1 l0_2 l0_3 false a0_5) else (legationref17_Check.j2 kj17 false a0_0 a0_1 l0_2 l0_3 false a0_5)) else (legationref17_Check.j2 kj17 true a0_0 a0_1 l0_2 l0_3 false a0_5)) else (if a0_1 = 3 then (if x3_17 = true then (legationref17_Check.j2 kj17 false a0_0 a0_1 l0_2 l0_3 false a0_5) else (legationref17_Check.j2 kj17 true a0_0 a0_1 l0_2 l0_3 false a0_5)) else (legationref17_Check.j2 kj17 false a0_0 a0_1 l0_2 l0_3 false a0_5))) = some r := by rw [if_pos rfl] at H; exact H
                  clear H
                  have H := H1
                  clear H1
                  by_cases c29 : a0_1 = 2
                  · rw [if_pos c29] at H
                    have c29b0 : (a0_1 == 2) = true := beq_iff_eq.mpr c29
                    have c29b1 : (a0_1 != 2) = false := bne_eq_false_iff_eq.mpr c29
                    clear c29
                    by_cases c30 : x3_17 = true
                    · subst c30
                      have H1 : (if a0_1 = 3 then (legationref17_Check.j2 kj17 false a0_0 a0_1 l0_2 l0_3 false a0_5) else (legationref17_Check.j2 kj17 false a0_0 a0_1 l0_2 l0_3 false a0_5)) = some r := by rw [if_pos rfl] at H; exact H
                      clear H
                      have H := H1
                      clear H1
                      by_cases c31 : a0_1 = 3
                      · rw [if_pos c31] at H
                        have c31b0 : (a0_1 == 3) = true := beq_iff_eq.mpr c31
                        have c31b1 : (a0_1 != 3) = false := bne_eq_false_iff_eq.mpr c31
                        clear c31
                        have H' := Aside0.mk H
                        clear H
                        have hcz32_0 : wc.cell? ⟨gb173, 0, none⟩ = some (.int .i64 a0_0) := (blk_cell BK173.out 0).trans rfl
                        have hcz32_1 : wc.cell? ⟨gb173, 1, none⟩ = some (.int .i64 a0_1) := (blk_cell BK173.out 1).trans rfl
                        have hcz32_2 : wc.cell? ⟨gb173, 2, none⟩ = some (.slice A0_2 l0_2.length c0_2) := (blk_cell BK173.out 2).trans rfl
                        have hcz32_3 : wc.cell? ⟨gb173, 3, none⟩ = some (.slice A0_3 l0_3.length c0_3) := (blk_cell BK173.out 3).trans rfl
                        have hcz32_4 : wc.cell? ⟨gb173, 4, none⟩ = some (.bool false) := (blk_cell BK173.out 4).trans rfl
                        have hcz32_5 : wc.cell? ⟨gb173, 5, none⟩ = some (.int .i64 a0_5) := (blk_cell BK173.out 5).trans rfl
                        have hfz32_0 := blk_frozen BK173.out 0
                        have hfz32_1 := blk_frozen BK173.out 1
                        have hfz32_2 := blk_frozen BK173.out 2
                        have hfz32_3 := blk_frozen BK173.out 3
                        have hfz32_4 := blk_frozen BK173.out 4
                        have hfz32_5 := blk_frozen BK173.out 5
                        go_wp2_with ((go_at_call 18; (with_reducible refine (legationref17_rightRows.calls kj17 _ _ l0_2 _ _ l0_3 true _ ?side1 ?side2 ?side3 ?side4 A27.out).mono ?_); (case side1 => repeat (exact (Kd.C_below HR0_2.out HB.out))); (case side2 => exact HC0_2.out); (case side3 => repeat (exact (Kd.C_below HR0_3.out HB.out))); (case side4 => exact HC0_3.out); rintro e w33 ⟨rfl, hb⟩; have n0_ := Aside0.mk (blk_below (g := gb173) (o := .cells #[.int .i64 a0_0, .int .i64 a0_1, .slice A0_2 l0_2.length c0_2, .slice A0_3 l0_3.length c0_3, .bool false, .int .i64 a0_5] 28 (0, 0)) (by (with_reducible repeat (fail)); exact BK173.out) hb); have n1_ := Aside0.mk (below_step (by repeat ((with_reducible exact HB.out))) hb); clear BK173; clear HB; have BK173 := n0_; have HB := n1_; clear n0_ n1_; (try clear hb); have hcz34_0 : w33.cell? ⟨gb173, 0, none⟩ = some (.int .i64 a0_0) := (blk_cell BK173.out 0).trans rfl; have hcz34_1 : w33.cell? ⟨gb173, 1, none⟩ = some (.int .i64 a0_1) := (blk_cell BK173.out 1).trans rfl; have hcz34_2 : w33.cell? ⟨gb173, 2, none⟩ = some (.slice A0_2 l0_2.length c0_2) := (blk_cell BK173.out 2).trans rfl; have hcz34_3 : w33.cell? ⟨gb173, 3, none⟩ = some (.slice A0_3 l0_3.length c0_3) := (blk_cell BK173.out 3).trans rfl; have hcz34_4 : w33.cell? ⟨gb173, 4, none⟩ = some (.bool false) := (blk_cell BK173.out 4).trans rfl; have hcz34_5 : w33.cell? ⟨gb173, 5, none⟩ = some (.int .i64 a0_5) := (blk_cell BK173.out 5).trans rfl; have hfz34_0 := blk_frozen BK173.out 0; have hfz34_1 := blk_frozen BK173.out 1; have hfz34_2 := blk_frozen BK173.out 2; have hfz34_3 := blk_frozen BK173.out 3; have hfz34_4 := blk_frozen BK173.out 4; have hfz34_5 := blk_frozen BK173.out 5))
                        go_meet
                        case rel => exact ⟨_, (false), (by rfl), H', ⟨by have := HJ1.out; have := HJ17.out; omega⟩, ⟨by (with_reducible repeat (fail)); exact BK173.out⟩, ⟨by repeat ((with_reducible exact HB.out))⟩⟩
                      rw [if_neg c31] at H
                      have c31b0 : (a0_1 == 3) = false := beq_eq_false_iff_ne.mpr c31
                      have c31b1 : (a0_1 != 3) = true := bne_iff_ne.mpr c31
                      have H' := Aside0.mk H
                      clear H
                      have hcz35_0 : wc.cell? ⟨gb173, 0, none⟩ = some (.int .i64 a0_0) := (blk_cell BK173.out 0).trans rfl
                      have hcz35_1 : wc.cell? ⟨gb173, 1, none⟩ = some (.int .i64 a0_1) := (blk_cell BK173.out 1).trans rfl
                      have hcz35_2 : wc.cell? ⟨gb173, 2, none⟩ = some (.slice A0_2 l0_2.length c0_2) := (blk_cell BK173.out 2).trans rfl
                      have hcz35_3 : wc.cell? ⟨gb173, 3, none⟩ = some (.slice A0_3 l0_3.length c0_3) := (blk_cell BK173.out 3).trans rfl
                      have hcz35_4 : wc.cell? ⟨gb173, 4, none⟩ = some (.bool false) := (blk_cell BK173.out 4).trans rfl
                      have hcz35_5 : wc.cell? ⟨gb173, 5, none⟩ = some (.int .i64 a0_5) := (blk_cell BK173.out 5).trans rfl
                      have hfz35_0 := blk_frozen BK173.out 0
                      have hfz35_1 := blk_frozen BK173.out 1
                      have hfz35_2 := blk_frozen BK173.out 2
                      have hfz35_3 := blk_frozen BK173.out 3
                      have hfz35_4 := blk_frozen BK173.out 4
                      have hfz35_5 := blk_frozen BK173.out 5
                      go_wp2_with ((go_at_call 18; (with_reducible refine (legationref17_rightRows.calls kj17 _ _ l0_2 _ _ l0_3 true _ ?side1 ?side2 ?side3 ?side4 A27.out).mono ?_); (case side1 => repeat (exact (Kd.C_below HR0_2.out HB.out))); (case side2 => exact HC0_2.out); (case side3 => repeat (exact (Kd.C_below HR0_3.out HB.out))); (case side4 => exact HC0_3.out); rintro e w36 ⟨rfl, hb⟩; have n0_ := Aside0.mk (blk_below (g := gb173) (o := .cells #[.int .i64 a0_0, .int .i64 a0_1, .slice A0_2 l0_2.length c0_2, .slice A0_3 l0_3.length c0_3, .bool false, .int .i64 a0_5] 28 (0, 0)) (by (with_reducible repeat (fail)); exact BK173.out) hb); have n1_ := Aside0.mk (below_step (by repeat ((with_reducible exact HB.out))) hb); clear BK173; clear HB; have BK173 := n0_; have HB := n1_; clear n0_ n1_; (try clear hb); have hcz37_0 : w36.cell? ⟨gb173, 0, none⟩ = some (.int .i64 a0_0) := (blk_cell BK173.out 0).trans rfl; have hcz37_1 : w36.cell? ⟨gb173, 1, none⟩ = some (.int .i64 a0_1) := (blk_cell BK173.out 1).trans rfl; have hcz37_2 : w36.cell? ⟨gb173, 2, none⟩ = some (.slice A0_2 l0_2.length c0_2) := (blk_cell BK173.out 2).trans rfl; have hcz37_3 : w36.cell? ⟨gb173, 3, none⟩ = some (.slice A0_3 l0_3.length c0_3) := (blk_cell BK173.out 3).trans rfl; have hcz37_4 : w36.cell? ⟨gb173, 4, none⟩ = some (.bool false) := (blk_cell BK173.out 4).trans rfl; have hcz37_5 : w36.cell? ⟨gb173, 5, none⟩ = some (.int .i64 a0_5) := (blk_cell BK173.out 5).trans rfl; have hfz37_0 := blk_frozen BK173.out 0; have hfz37_1 := blk_frozen BK173.out 1; have hfz37_2 := blk_frozen BK173.out 2; have hfz37_3 := blk_frozen BK173.out 3; have hfz37_4 := blk_frozen BK173.out 4; have hfz37_5 := blk_frozen BK173.out 5))
                      go_meet
                      case rel => exact ⟨_, (false), (by rfl), H', ⟨by have := HJ1.out; have := HJ17.out; omega⟩, ⟨by (with_reducible repeat (fail)); exact BK173.out⟩, ⟨by repeat ((with_reducible exact HB.out))⟩⟩
                    replace c30 := Bool.eq_false_iff.mpr c30
                    subst c30
                    have H1 : (legationref17_Check.j2 kj17 true a0_0 a0_1 l0_2 l0_3 false a0_5) = some r := by rw [if_neg (show ¬ (false = true) by decide)] at H; exact H
                    clear H
                    have H := H1
                    clear H1
                    have H' := Aside0.mk H
                    clear H
                    have hcz38_0 : wc.cell? ⟨gb173, 0, none⟩ = some (.int .i64 a0_0) := (blk_cell BK173.out 0).trans rfl
                    have hcz38_1 : wc.cell? ⟨gb173, 1, none⟩ = some (.int .i64 a0_1) := (blk_cell BK173.out 1).trans rfl
                    have hcz38_2 : wc.cell? ⟨gb173, 2, none⟩ = some (.slice A0_2 l0_2.length c0_2) := (blk_cell BK173.out 2).trans rfl
                    have hcz38_3 : wc.cell? ⟨gb173, 3, none⟩ = some (.slice A0_3 l0_3.length c0_3) := (blk_cell BK173.out 3).trans rfl
                    have hcz38_4 : wc.cell? ⟨gb173, 4, none⟩ = some (.bool false) := (blk_cell BK173.out 4).trans rfl
                    have hcz38_5 : wc.cell? ⟨gb173, 5, none⟩ = some (.int .i64 a0_5) := (blk_cell BK173.out 5).trans rfl
                    have hfz38_0 := blk_frozen BK173.out 0
                    have hfz38_1 := blk_frozen BK173.out 1
                    have hfz38_2 := blk_frozen BK173.out 2
                    have hfz38_3 := blk_frozen BK173.out 3
                    have hfz38_4 := blk_frozen BK173.out 4
                    have hfz38_5 := blk_frozen BK173.out 5
                    go_wp2_with ((go_at_call 18; (with_reducible refine (legationref17_rightRows.calls kj17 _ _ l0_2 _ _ l0_3 true _ ?side1 ?side2 ?side3 ?side4 A27.out).mono ?_); (case side1 => repeat (exact (Kd.C_below HR0_2.out HB.out))); (case side2 => exact HC0_2.out); (case side3 => repeat (exact (Kd.C_below HR0_3.out HB.out))); (case side4 => exact HC0_3.out); rintro e w39 ⟨rfl, hb⟩; have n0_ := Aside0.mk (blk_below (g := gb173) (o := .cells #[.int .i64 a0_0, .int .i64 a0_1, .slice A0_2 l0_2.length c0_2, .slice A0_3 l0_3.length c0_3, .bool false, .int .i64 a0_5] 28 (0, 0)) (by (with_reducible repeat (fail)); exact BK173.out) hb); have n1_ := Aside0.mk (below_step (by repeat ((with_reducible exact HB.out))) hb); clear BK173; clear HB; have BK173 := n0_; have HB := n1_; clear n0_ n1_; (try clear hb); have hcz40_0 : w39.cell? ⟨gb173, 0, none⟩ = some (.int .i64 a0_0) := (blk_cell BK173.out 0).trans rfl; have hcz40_1 : w39.cell? ⟨gb173, 1, none⟩ = some (.int .i64 a0_1) := (blk_cell BK173.out 1).trans rfl; have hcz40_2 : w39.cell? ⟨gb173, 2, none⟩ = some (.slice A0_2 l0_2.length c0_2) := (blk_cell BK173.out 2).trans rfl; have hcz40_3 : w39.cell? ⟨gb173, 3, none⟩ = some (.slice A0_3 l0_3.length c0_3) := (blk_cell BK173.out 3).trans rfl; have hcz40_4 : w39.cell? ⟨gb173, 4, none⟩ = some (.bool false) := (blk_cell BK173.out 4).trans rfl; have hcz40_5 : w39.cell? ⟨gb173, 5, none⟩ = some (.int .i64 a0_5) := (blk_cell BK173.out 5).trans rfl; have hfz40_0 := blk_frozen BK173.out 0; have hfz40_1 := blk_frozen BK173.out 1; have hfz40_2 := blk_frozen BK173.out 2; have hfz40_3 := blk_frozen BK173.out 3; have hfz40_4 := blk_frozen BK173.out 4; have hfz40_5 := blk_frozen BK173.out 5))
                    go_meet
                    case rel => exact ⟨_, (true), (by rfl), H', ⟨by have := HJ1.out; have := HJ17.out; omega⟩, ⟨by (with_reducible repeat (fail)); exact BK173.out⟩, ⟨by repeat ((with_reducible exact HB.out))⟩⟩
                  rw [if_neg c29] at H
                  have c29b0 : (a0_1 == 2) = false := beq_eq_false_iff_ne.mpr c29
                  have c29b1 : (a0_1 != 2) = true := bne_iff_ne.mpr c29
                  by_cases c41 : a0_1 = 3
                  · rw [if_pos c41] at H
                    have c41b0 : (a0_1 == 3) = true := beq_iff_eq.mpr c41
                    have c41b1 : (a0_1 != 3) = false := bne_eq_false_iff_eq.mpr c41
                    clear c41
                    by_cases c42 : x3_17 = true
                    · subst c42
                      have H1 : (legationref17_Check.j2 kj17 false a0_0 a0_1 l0_2 l0_3 false a0_5) = some r := by rw [if_pos rfl] at H; exact H
                      clear H
                      have H := H1
                      clear H1
                      have H' := Aside0.mk H
                      clear H
                      have hcz43_0 : wc.cell? ⟨gb173, 0, none⟩ = some (.int .i64 a0_0) := (blk_cell BK173.out 0).trans rfl
                      have hcz43_1 : wc.cell? ⟨gb173, 1, none⟩ = some (.int .i64 a0_1) := (blk_cell BK173.out 1).trans rfl
                      have hcz43_2 : wc.cell? ⟨gb173, 2, none⟩ = some (.slice A0_2 l0_2.length c0_2) := (blk_cell BK173.out 2).trans rfl
                      have hcz43_3 : wc.cell? ⟨gb173, 3, none⟩ = some (.slice A0_3 l0_3.length c0_3) := (blk_cell BK173.out 3).trans rfl
                      have hcz43_4 : wc.cell? ⟨gb173, 4, none⟩ = some (.bool false) := (blk_cell BK173.out 4).trans rfl
                      have hcz43_5 : wc.cell? ⟨gb173, 5, none⟩ = some (.int .i64 a0_5) := (blk_cell BK173.out 5).trans rfl
                      have hfz43_0 := blk_frozen BK173.out 0
                      have hfz43_1 := blk_frozen BK173.out 1
                      have hfz43_2 := blk_frozen BK173.out 2
                      have hfz43_3 := blk_frozen BK173.out 3
                      have hfz43_4 := blk_frozen BK173.out 4
                      have hfz43_5 := blk_frozen BK173.out 5
                      go_wp2_with ((go_at_call 18; (with_reducible refine (legationref17_rightRows.calls kj17 _ _ l0_2 _ _ l0_3 true _ ?side1 ?side2 ?side3 ?side4 A27.out).mono ?_); (case side1 => repeat (exact (Kd.C_below HR0_2.out HB.out))); (case side2 => exact HC0_2.out); (case side3 => repeat (exact (Kd.C_below HR0_3.out HB.out))); (case side4 => exact HC0_3.out); rintro e w44 ⟨rfl, hb⟩; have n0_ := Aside0.mk (blk_below (g := gb173) (o := .cells #[.int .i64 a0_0, .int .i64 a0_1, .slice A0_2 l0_2.length c0_2, .slice A0_3 l0_3.length c0_3, .bool false, .int .i64 a0_5] 28 (0, 0)) (by (with_reducible repeat (fail)); exact BK173.out) hb); have n1_ := Aside0.mk (below_step (by repeat ((with_reducible exact HB.out))) hb); clear BK173; clear HB; have BK173 := n0_; have HB := n1_; clear n0_ n1_; (try clear hb); have hcz45_0 : w44.cell? ⟨gb173, 0, none⟩ = some (.int .i64 a0_0) := (blk_cell BK173.out 0).trans rfl; have hcz45_1 : w44.cell? ⟨gb173, 1, none⟩ = some (.int .i64 a0_1) := (blk_cell BK173.out 1).trans rfl; have hcz45_2 : w44.cell? ⟨gb173, 2, none⟩ = some (.slice A0_2 l0_2.length c0_2) := (blk_cell BK173.out 2).trans rfl; have hcz45_3 : w44.cell? ⟨gb173, 3, none⟩ = some (.slice A0_3 l0_3.length c0_3) := (blk_cell BK173.out 3).trans rfl; have hcz45_4 : w44.cell? ⟨gb173, 4, none⟩ = some (.bool false) := (blk_cell BK173.out 4).trans rfl; have hcz45_5 : w44.cell? ⟨gb173, 5, none⟩ = some (.int .i64 a0_5) := (blk_cell BK173.out 5).trans rfl; have hfz45_0 := blk_frozen BK173.out 0; have hfz45_1 := blk_frozen BK173.out 1; have hfz45_2 := blk_frozen BK173.out 2; have hfz45_3 := blk_frozen BK173.out 3; have hfz45_4 := blk_frozen BK173.out 4; have hfz45_5 := blk_frozen BK173.out 5))
                      go_meet
                      case rel => exact ⟨_, (false), (by rfl), H', ⟨by have := HJ1.out; have := HJ17.out; omega⟩, ⟨by (with_reducible repeat (fail)); exact BK173.out⟩, ⟨by repeat ((with_reducible exact HB.out))⟩⟩
                    replace c42 := Bool.eq_false_iff.mpr c42
                    subst c42
                    have H1 : (legationref17_Check.j2 kj17 true a0_0 a0_1 l0_2 l0_3 false a0_5) = some r := by rw [if_neg (show ¬ (false = true) by decide)] at H; exact H
                    clear H
                    have H := H1
                    clear H1
                    have H' := Aside0.mk H
                    clear H
                    have hcz46_0 : wc.cell? ⟨gb173, 0, none⟩ = some (.int .i64 a0_0) := (blk_cell BK173.out 0).trans rfl
                    have hcz46_1 : wc.cell? ⟨gb173, 1, none⟩ = some (.int .i64 a0_1) := (blk_cell BK173.out 1).trans rfl
                    have hcz46_2 : wc.cell? ⟨gb173, 2, none⟩ = some (.slice A0_2 l0_2.length c0_2) := (blk_cell BK173.out 2).trans rfl
                    have hcz46_3 : wc.cell? ⟨gb173, 3, none⟩ = some (.slice A0_3 l0_3.length c0_3) := (blk_cell BK173.out 3).trans rfl
                    have hcz46_4 : wc.cell? ⟨gb173, 4, none⟩ = some (.bool false) := (blk_cell BK173.out 4).trans rfl
                    have hcz46_5 : wc.cell? ⟨gb173, 5, none⟩ = some (.int .i64 a0_5) := (blk_cell BK173.out 5).trans rfl
                    have hfz46_0 := blk_frozen BK173.out 0
                    have hfz46_1 := blk_frozen BK173.out 1
                    have hfz46_2 := blk_frozen BK173.out 2
                    have hfz46_3 := blk_frozen BK173.out 3
                    have hfz46_4 := blk_frozen BK173.out 4
                    have hfz46_5 := blk_frozen BK173.out 5
                    go_wp2_with ((go_at_call 18; (with_reducible refine (legationref17_rightRows.calls kj17 _ _ l0_2 _ _ l0_3 true _ ?side1 ?side2 ?side3 ?side4 A27.out).mono ?_); (case side1 => repeat (exact (Kd.C_below HR0_2.out HB.out))); (case side2 => exact HC0_2.out); (case side3 => repeat (exact (Kd.C_below HR0_3.out HB.out))); (case side4 => exact HC0_3.out); rintro e w47 ⟨rfl, hb⟩; have n0_ := Aside0.mk (blk_below (g := gb173) (o := .cells #[.int .i64 a0_0, .int .i64 a0_1, .slice A0_2 l0_2.length c0_2, .slice A0_3 l0_3.length c0_3, .bool false, .int .i64 a0_5] 28 (0, 0)) (by (with_reducible repeat (fail)); exact BK173.out) hb); have n1_ := Aside0.mk (below_step (by repeat ((with_reducible exact HB.out))) hb); clear BK173; clear HB; have BK173 := n0_; have HB := n1_; clear n0_ n1_; (try clear hb); have hcz48_0 : w47.cell? ⟨gb173, 0, none⟩ = some (.int .i64 a0_0) := (blk_cell BK173.out 0).trans rfl; have hcz48_1 : w47.cell? ⟨gb173, 1, none⟩ = some (.int .i64 a0_1) := (blk_cell BK173.out 1).trans rfl; have hcz48_2 : w47.cell? ⟨gb173, 2, none⟩ = some (.slice A0_2 l0_2.length c0_2) := (blk_cell BK173.out 2).trans rfl; have hcz48_3 : w47.cell? ⟨gb173, 3, none⟩ = some (.slice A0_3 l0_3.length c0_3) := (blk_cell BK173.out 3).trans rfl; have hcz48_4 : w47.cell? ⟨gb173, 4, none⟩ = some (.bool false) := (blk_cell BK173.out 4).trans rfl; have hcz48_5 : w47.cell? ⟨gb173, 5, none⟩ = some (.int .i64 a0_5) := (blk_cell BK173.out 5).trans rfl; have hfz48_0 := blk_frozen BK173.out 0; have hfz48_1 := blk_frozen BK173.out 1; have hfz48_2 := blk_frozen BK173.out 2; have hfz48_3 := blk_frozen BK173.out 3; have hfz48_4 := blk_frozen BK173.out 4; have hfz48_5 := blk_frozen BK173.out 5))
                    go_meet
                    case rel => exact ⟨_, (true), (by rfl), H', ⟨by have := HJ1.out; have := HJ17.out; omega⟩, ⟨by (with_reducible repeat (fail)); exact BK173.out⟩, ⟨by repeat ((with_reducible exact HB.out))⟩⟩
                  rw [if_neg c41] at H
                  have c41b0 : (a0_1 == 3) = false := beq_eq_false_iff_ne.mpr c41
                  have c41b1 : (a0_1 != 3) = true := bne_iff_ne.mpr c41
                  have H' := Aside0.mk H
                  clear H
                  have hcz49_0 : wc.cell? ⟨gb173, 0, none⟩ = some (.int .i64 a0_0) := (blk_cell BK173.out 0).trans rfl
                  have hcz49_1 : wc.cell? ⟨gb173, 1, none⟩ = some (.int .i64 a0_1) := (blk_cell BK173.out 1).trans rfl
                  have hcz49_2 : wc.cell? ⟨gb173, 2, none⟩ = some (.slice A0_2 l0_2.length c0_2) := (blk_cell BK173.out 2).trans rfl
                  have hcz49_3 : wc.cell? ⟨gb173, 3, none⟩ = some (.slice A0_3 l0_3.length c0_3) := (blk_cell BK173.out 3).trans rfl
                  have hcz49_4 : wc.cell? ⟨gb173, 4, none⟩ = some (.bool false) := (blk_cell BK173.out 4).trans rfl
                  have hcz49_5 : wc.cell? ⟨gb173, 5, none⟩ = some (.int .i64 a0_5) := (blk_cell BK173.out 5).trans rfl
                  have hfz49_0 := blk_frozen BK173.out 0
                  have hfz49_1 := blk_frozen BK173.out 1
                  have hfz49_2 := blk_frozen BK173.out 2
                  have hfz49_3 := blk_frozen BK173.out 3
                  have hfz49_4 := blk_frozen BK173.out 4
                  have hfz49_5 := blk_frozen BK173.out 5
                  go_wp2_with ((go_at_call 18; (with_reducible refine (legationref17_rightRows.calls kj17 _ _ l0_2 _ _ l0_3 true _ ?side1 ?side2 ?side3 ?side4 A27.out).mono ?_); (case side1 => repeat (exact (Kd.C_below HR0_2.out HB.out))); (case side2 => exact HC0_2.out); (case side3 => repeat (exact (Kd.C_below HR0_3.out HB.out))); (case side4 => exact HC0_3.out); rintro e w50 ⟨rfl, hb⟩; have n0_ := Aside0.mk (blk_below (g := gb173) (o := .cells #[.int .i64 a0_0, .int .i64 a0_1, .slice A0_2 l0_2.length c0_2, .slice A0_3 l0_3.length c0_3, .bool false, .int .i64 a0_5] 28 (0, 0)) (by (with_reducible repeat (fail)); exact BK173.out) hb); have n1_ := Aside0.mk (below_step (by repeat ((with_reducible exact HB.out))) hb); clear BK173; clear HB; have BK173 := n0_; have HB := n1_; clear n0_ n1_; (try clear hb); have hcz51_0 : w50.cell? ⟨gb173, 0, none⟩ = some (.int .i64 a0_0) := (blk_cell BK173.out 0).trans rfl; have hcz51_1 : w50.cell? ⟨gb173, 1, none⟩ = some (.int .i64 a0_1) := (blk_cell BK173.out 1).trans rfl; have hcz51_2 : w50.cell? ⟨gb173, 2, none⟩ = some (.slice A0_2 l0_2.length c0_2) := (blk_cell BK173.out 2).trans rfl; have hcz51_3 : w50.cell? ⟨gb173, 3, none⟩ = some (.slice A0_3 l0_3.length c0_3) := (blk_cell BK173.out 3).trans rfl; have hcz51_4 : w50.cell? ⟨gb173, 4, none⟩ = some (.bool false) := (blk_cell BK173.out 4).trans rfl; have hcz51_5 : w50.cell? ⟨gb173, 5, none⟩ = some (.int .i64 a0_5) := (blk_cell BK173.out 5).trans rfl; have hfz51_0 := blk_frozen BK173.out 0; have hfz51_1 := blk_frozen BK173.out 1; have hfz51_2 := blk_frozen BK173.out 2; have hfz51_3 := blk_frozen BK173.out 3; have hfz51_4 := blk_frozen BK173.out 4; have hfz51_5 := blk_frozen BK173.out 5))
                  go_meet
                  case rel => exact ⟨_, (false), (by rfl), H', ⟨by have := HJ1.out; have := HJ17.out; omega⟩, ⟨by (with_reducible repeat (fail)); exact BK173.out⟩, ⟨by repeat ((with_reducible exact HB.out))⟩⟩
                replace c28 := Bool.eq_false_iff.mpr c28
                subst c28
                have H1 : (legationref17_Check.j2 kj17 true a0_0 a0_1 l0_2 l0_3 false a0_5) = some r := by rw [if_neg (show ¬ (false = true) by decide)] at H; exact H
                clear H
                have H := H1
                clear H1
                have H' := Aside0.mk H
                clear H
                have hcz52_0 : wc.cell? ⟨gb173, 0, none⟩ = some (.int .i64 a0_0) := (blk_cell BK173.out 0).trans rfl
                have hcz52_1 : wc.cell? ⟨gb173, 1, none⟩ = some (.int .i64 a0_1) := (blk_cell BK173.out 1).trans rfl
                have hcz52_2 : wc.cell? ⟨gb173, 2, none⟩ = some (.slice A0_2 l0_2.length c0_2) := (blk_cell BK173.out 2).trans rfl
                have hcz52_3 : wc.cell? ⟨gb173, 3, none⟩ = some (.slice A0_3 l0_3.length c0_3) := (blk_cell BK173.out 3).trans rfl
                have hcz52_4 : wc.cell? ⟨gb173, 4, none⟩ = some (.bool false) := (blk_cell BK173.out 4).trans rfl
                have hcz52_5 : wc.cell? ⟨gb173, 5, none⟩ = some (.int .i64 a0_5) := (blk_cell BK173.out 5).trans rfl
                have hfz52_0 := blk_frozen BK173.out 0
                have hfz52_1 := blk_frozen BK173.out 1
                have hfz52_2 := blk_frozen BK173.out 2
                have hfz52_3 := blk_frozen BK173.out 3
                have hfz52_4 := blk_frozen BK173.out 4
                have hfz52_5 := blk_frozen BK173.out 5
                go_wp2_with ((go_at_call 18; (with_reducible refine (legationref17_rightRows.calls kj17 _ _ l0_2 _ _ l0_3 false _ ?side1 ?side2 ?side3 ?side4 A27.out).mono ?_); (case side1 => repeat (exact (Kd.C_below HR0_2.out HB.out))); (case side2 => exact HC0_2.out); (case side3 => repeat (exact (Kd.C_below HR0_3.out HB.out))); (case side4 => exact HC0_3.out); rintro e w53 ⟨rfl, hb⟩; have n0_ := Aside0.mk (blk_below (g := gb173) (o := .cells #[.int .i64 a0_0, .int .i64 a0_1, .slice A0_2 l0_2.length c0_2, .slice A0_3 l0_3.length c0_3, .bool false, .int .i64 a0_5] 28 (0, 0)) (by (with_reducible repeat (fail)); exact BK173.out) hb); have n1_ := Aside0.mk (below_step (by repeat ((with_reducible exact HB.out))) hb); clear BK173; clear HB; have BK173 := n0_; have HB := n1_; clear n0_ n1_; (try clear hb)))
                go_meet
                case rel => exact ⟨_, (true), (by rfl), H', ⟨by have := HJ1.out; have := HJ17.out; omega⟩, ⟨by (with_reducible repeat (fail)); exact BK173.out⟩, ⟨by repeat ((with_reducible exact HB.out))⟩⟩
              rw [if_neg c26] at H
              have c26b0 : (a0_5 == 0) = false := beq_eq_false_iff_ne.mpr c26
              have c26b1 : (a0_5 != 0) = true := bne_iff_ne.mpr c26
              have H' := Aside0.mk H
              clear H
              have hcz54_0 : wc.cell? ⟨gb173, 0, none⟩ = some (.int .i64 a0_0) := (blk_cell BK173.out 0).trans rfl
              have hcz54_1 : wc.cell? ⟨gb173, 1, none⟩ = some (.int .i64 a0_1) := (blk_cell BK173.out 1).trans rfl
              have hcz54_2 : wc.cell? ⟨gb173, 2, none⟩ = some (.slice A0_2 l0_2.length c0_2) := (blk_cell BK173.out 2).trans rfl
              have hcz54_3 : wc.cell? ⟨gb173, 3, none⟩ = some (.slice A0_3 l0_3.length c0_3) := (blk_cell BK173.out 3).trans rfl
              have hcz54_4 : wc.cell? ⟨gb173, 4, none⟩ = some (.bool false) := (blk_cell BK173.out 4).trans rfl
              have hcz54_5 : wc.cell? ⟨gb173, 5, none⟩ = some (.int .i64 a0_5) := (blk_cell BK173.out 5).trans rfl
              have hfz54_0 := blk_frozen BK173.out 0
              have hfz54_1 := blk_frozen BK173.out 1
              have hfz54_2 := blk_frozen BK173.out 2
              have hfz54_3 := blk_frozen BK173.out 3
              have hfz54_4 := blk_frozen BK173.out 4
              have hfz54_5 := blk_frozen BK173.out 5
              go_wp2
              go_meet
              case rel => exact ⟨_, (true), (by rfl), H', ⟨by have := HJ1.out; have := HJ17.out; omega⟩, ⟨by (with_reducible repeat (fail)); exact BK173.out⟩, ⟨by repeat ((with_reducible exact HB.out))⟩⟩
            rw [if_neg c23] at H
            have c23b0 : (a0_1 == 1) = false := beq_eq_false_iff_ne.mpr c23
            have c23b1 : (a0_1 != 1) = true := bne_iff_ne.mpr c23
            by_cases c55 : a0_1 = 2
            · rw [if_pos c55] at H
              have c55b0 : (a0_1 == 2) = true := beq_iff_eq.mpr c55
              have c55b1 : (a0_1 != 2) = false := bne_eq_false_iff_eq.mpr c55
              clear c55
              by_cases c56 : x3_17 = true
              · subst c56
                have H1 : (if a0_5 = 0 then (if a0_1 = 3 then (legationref17_Check.j2 kj17 a0_4 a0_0 a0_1 l0_2 l0_3 a0_4 a0_5) else (legationref17_Check.j2 kj17 false a0_0 a0_1 l0_2 l0_3 a0_4 a0_5)) else (legationref17_Check.j2 kj17 true a0_0 a0_1 l0_2 l0_3 a0_4 a0_5)) = some r := by rw [if_pos rfl] at H; exact H
                clear H
                have H := H1
                clear H1
                by_cases c57 : a0_5 = 0
                · rw [if_pos c57] at H
                  have c57b0 : (a0_5 == 0) = true := beq_iff_eq.mpr c57
                  have c57b1 : (a0_5 != 0) = false := bne_eq_false_iff_eq.mpr c57
                  clear c57
                  by_cases c58 : a0_1 = 3
                  · rw [if_pos c58] at H
                    have c58b0 : (a0_1 == 3) = true := beq_iff_eq.mpr c58
                    have c58b1 : (a0_1 != 3) = false := bne_eq_false_iff_eq.mpr c58
                    clear c58
                    have H' := Aside0.mk H
                    clear H
                    have hcz59_0 : wc.cell? ⟨gb173, 0, none⟩ = some (.int .i64 a0_0) := (blk_cell BK173.out 0).trans rfl
                    have hcz59_1 : wc.cell? ⟨gb173, 1, none⟩ = some (.int .i64 a0_1) := (blk_cell BK173.out 1).trans rfl
                    have hcz59_2 : wc.cell? ⟨gb173, 2, none⟩ = some (.slice A0_2 l0_2.length c0_2) := (blk_cell BK173.out 2).trans rfl
                    have hcz59_3 : wc.cell? ⟨gb173, 3, none⟩ = some (.slice A0_3 l0_3.length c0_3) := (blk_cell BK173.out 3).trans rfl
                    have hcz59_4 : wc.cell? ⟨gb173, 4, none⟩ = some (.bool a0_4) := (blk_cell BK173.out 4).trans rfl
                    have hcz59_5 : wc.cell? ⟨gb173, 5, none⟩ = some (.int .i64 a0_5) := (blk_cell BK173.out 5).trans rfl
                    have hfz59_0 := blk_frozen BK173.out 0
                    have hfz59_1 := blk_frozen BK173.out 1
                    have hfz59_2 := blk_frozen BK173.out 2
                    have hfz59_3 := blk_frozen BK173.out 3
                    have hfz59_4 := blk_frozen BK173.out 4
                    have hfz59_5 := blk_frozen BK173.out 5
                    go_wp2
                    go_meet
                    case rel => exact ⟨_, (a0_4), (by rfl), H', ⟨by have := HJ1.out; have := HJ17.out; omega⟩, ⟨by (with_reducible repeat (fail)); exact BK173.out⟩, ⟨by repeat ((with_reducible exact HB.out))⟩⟩
                  rw [if_neg c58] at H
                  have c58b0 : (a0_1 == 3) = false := beq_eq_false_iff_ne.mpr c58
                  have c58b1 : (a0_1 != 3) = true := bne_iff_ne.mpr c58
                  have H' := Aside0.mk H
                  clear H
                  have hcz60_0 : wc.cell? ⟨gb173, 0, none⟩ = some (.int .i64 a0_0) := (blk_cell BK173.out 0).trans rfl
                  have hcz60_1 : wc.cell? ⟨gb173, 1, none⟩ = some (.int .i64 a0_1) := (blk_cell BK173.out 1).trans rfl
                  have hcz60_2 : wc.cell? ⟨gb173, 2, none⟩ = some (.slice A0_2 l0_2.length c0_2) := (blk_cell BK173.out 2).trans rfl
                  have hcz60_3 : wc.cell? ⟨gb173, 3, none⟩ = some (.slice A0_3 l0_3.length c0_3) := (blk_cell BK173.out 3).trans rfl
                  have hcz60_4 : wc.cell? ⟨gb173, 4, none⟩ = some (.bool a0_4) := (blk_cell BK173.out 4).trans rfl
                  have hcz60_5 : wc.cell? ⟨gb173, 5, none⟩ = some (.int .i64 a0_5) := (blk_cell BK173.out 5).trans rfl
                  have hfz60_0 := blk_frozen BK173.out 0
                  have hfz60_1 := blk_frozen BK173.out 1
                  have hfz60_2 := blk_frozen BK173.out 2
                  have hfz60_3 := blk_frozen BK173.out 3
                  have hfz60_4 := blk_frozen BK173.out 4
                  have hfz60_5 := blk_frozen BK173.out 5
                  go_wp2
                  go_meet
                  case rel => exact ⟨_, (false), (by rfl), H', ⟨by have := HJ1.out; have := HJ17.out; omega⟩, ⟨by (with_reducible repeat (fail)); exact BK173.out⟩, ⟨by repeat ((with_reducible exact HB.out))⟩⟩
                rw [if_neg c57] at H
                have c57b0 : (a0_5 == 0) = false := beq_eq_false_iff_ne.mpr c57
                have c57b1 : (a0_5 != 0) = true := bne_iff_ne.mpr c57
                have H' := Aside0.mk H
                clear H
                have hcz61_0 : wc.cell? ⟨gb173, 0, none⟩ = some (.int .i64 a0_0) := (blk_cell BK173.out 0).trans rfl
                have hcz61_1 : wc.cell? ⟨gb173, 1, none⟩ = some (.int .i64 a0_1) := (blk_cell BK173.out 1).trans rfl
                have hcz61_2 : wc.cell? ⟨gb173, 2, none⟩ = some (.slice A0_2 l0_2.length c0_2) := (blk_cell BK173.out 2).trans rfl
                have hcz61_3 : wc.cell? ⟨gb173, 3, none⟩ = some (.slice A0_3 l0_3.length c0_3) := (blk_cell BK173.out 3).trans rfl
                have hcz61_4 : wc.cell? ⟨gb173, 4, none⟩ = some (.bool a0_4) := (blk_cell BK173.out 4).trans rfl
                have hcz61_5 : wc.cell? ⟨gb173, 5, none⟩ = some (.int .i64 a0_5) := (blk_cell BK173.out 5).trans rfl
                have hfz61_0 := blk_frozen BK173.out 0
                have hfz61_1 := blk_frozen BK173.out 1
                have hfz61_2 := blk_frozen BK173.out 2
                have hfz61_3 := blk_frozen BK173.out 3
                have hfz61_4 := blk_frozen BK173.out 4
                have hfz61_5 := blk_frozen BK173.out 5
                go_wp2
                go_meet
                case rel => exact ⟨_, (true), (by rfl), H', ⟨by have := HJ1.out; have := HJ17.out; omega⟩, ⟨by (with_reducible repeat (fail)); exact BK173.out⟩, ⟨by repeat ((with_reducible exact HB.out))⟩⟩
              replace c56 := Bool.eq_false_iff.mpr c56
              subst c56
              have H1 : (legationref17_Check.j2 kj17 true a0_0 a0_1 l0_2 l0_3 a0_4 a0_5) = some r := by rw [if_neg (show ¬ (false = true) by decide)] at H; exact H
              clear H
              have H := H1
              clear H1
              have H' := Aside0.mk H
              clear H
              have hcz62_0 : wc.cell? ⟨gb173, 0, none⟩ = some (.int .i64 a0_0) := (blk_cell BK173.out 0).trans rfl
              have hcz62_1 : wc.cell? ⟨gb173, 1, none⟩ = some (.int .i64 a0_1) := (blk_cell BK173.out 1).trans rfl
              have hcz62_2 : wc.cell? ⟨gb173, 2, none⟩ = some (.slice A0_2 l0_2.length c0_2) := (blk_cell BK173.out 2).trans rfl
              have hcz62_3 : wc.cell? ⟨gb173, 3, none⟩ = some (.slice A0_3 l0_3.length c0_3) := (blk_cell BK173.out 3).trans rfl
              have hcz62_4 : wc.cell? ⟨gb173, 4, none⟩ = some (.bool a0_4) := (blk_cell BK173.out 4).trans rfl
              have hcz62_5 : wc.cell? ⟨gb173, 5, none⟩ = some (.int .i64 a0_5) := (blk_cell BK173.out 5).trans rfl
              have hfz62_0 := blk_frozen BK173.out 0
              have hfz62_1 := blk_frozen BK173.out 1
              have hfz62_2 := blk_frozen BK173.out 2
              have hfz62_3 := blk_frozen BK173.out 3
              have hfz62_4 := blk_frozen BK173.out 4
              have hfz62_5 := blk_frozen BK173.out 5
              go_wp2
              go_meet
              case rel => exact ⟨_, (true), (by rfl), H', ⟨by have := HJ1.out; have := HJ17.out; omega⟩, ⟨by (with_reducible repeat (fail)); exact BK173.out⟩, ⟨by repeat ((with_reducible exact HB.out))⟩⟩
            rw [if_neg c55] at H
            have c55b0 : (a0_1 == 2) = false := beq_eq_false_iff_ne.mpr c55
            have c55b1 : (a0_1 != 2) = true := bne_iff_ne.mpr c55
            by_cases c63 : a0_1 = 3
            · rw [if_pos c63] at H
              have c63b0 : (a0_1 == 3) = true := beq_iff_eq.mpr c63
              have c63b1 : (a0_1 != 3) = false := bne_eq_false_iff_eq.mpr c63
              clear c63
              by_cases c64 : x3_17 = true
              · subst c64
                have H1 : (legationref17_Check.j2 kj17 a0_4 a0_0 a0_1 l0_2 l0_3 a0_4 a0_5) = some r := by rw [if_pos rfl] at H; exact H
                clear H
                have H := H1
                clear H1
                have H' := Aside0.mk H
                clear H
                have hcz65_0 : wc.cell? ⟨gb173, 0, none⟩ = some (.int .i64 a0_0) := (blk_cell BK173.out 0).trans rfl
                have hcz65_1 : wc.cell? ⟨gb173, 1, none⟩ = some (.int .i64 a0_1) := (blk_cell BK173.out 1).trans rfl
                have hcz65_2 : wc.cell? ⟨gb173, 2, none⟩ = some (.slice A0_2 l0_2.length c0_2) := (blk_cell BK173.out 2).trans rfl
                have hcz65_3 : wc.cell? ⟨gb173, 3, none⟩ = some (.slice A0_3 l0_3.length c0_3) := (blk_cell BK173.out 3).trans rfl
                have hcz65_4 : wc.cell? ⟨gb173, 4, none⟩ = some (.bool a0_4) := (blk_cell BK173.out 4).trans rfl
                have hcz65_5 : wc.cell? ⟨gb173, 5, none⟩ = some (.int .i64 a0_5) := (blk_cell BK173.out 5).trans rfl
                have hfz65_0 := blk_frozen BK173.out 0
                have hfz65_1 := blk_frozen BK173.out 1
                have hfz65_2 := blk_frozen BK173.out 2
                have hfz65_3 := blk_frozen BK173.out 3
                have hfz65_4 := blk_frozen BK173.out 4
                have hfz65_5 := blk_frozen BK173.out 5
                go_wp2
                go_meet
                case rel => exact ⟨_, (a0_4), (by rfl), H', ⟨by have := HJ1.out; have := HJ17.out; omega⟩, ⟨by (with_reducible repeat (fail)); exact BK173.out⟩, ⟨by repeat ((with_reducible exact HB.out))⟩⟩
              replace c64 := Bool.eq_false_iff.mpr c64
              subst c64
              have H1 : (legationref17_Check.j2 kj17 true a0_0 a0_1 l0_2 l0_3 a0_4 a0_5) = some r := by rw [if_neg (show ¬ (false = true) by decide)] at H; exact H
              clear H
              have H := H1
              clear H1
              have H' := Aside0.mk H
              clear H
              have hcz66_0 : wc.cell? ⟨gb173, 0, none⟩ = some (.int .i64 a0_0) := (blk_cell BK173.out 0).trans rfl
              have hcz66_1 : wc.cell? ⟨gb173, 1, none⟩ = some (.int .i64 a0_1) := (blk_cell BK173.out 1).trans rfl
              have hcz66_2 : wc.cell? ⟨gb173, 2, none⟩ = some (.slice A0_2 l0_2.length c0_2) := (blk_cell BK173.out 2).trans rfl
              have hcz66_3 : wc.cell? ⟨gb173, 3, none⟩ = some (.slice A0_3 l0_3.length c0_3) := (blk_cell BK173.out 3).trans rfl
              have hcz66_4 : wc.cell? ⟨gb173, 4, none⟩ = some (.bool a0_4) := (blk_cell BK173.out 4).trans rfl
              have hcz66_5 : wc.cell? ⟨gb173, 5, none⟩ = some (.int .i64 a0_5) := (blk_cell BK173.out 5).trans rfl
              have hfz66_0 := blk_frozen BK173.out 0
              have hfz66_1 := blk_frozen BK173.out 1
              have hfz66_2 := blk_frozen BK173.out 2
              have hfz66_3 := blk_frozen BK173.out 3
              have hfz66_4 := blk_frozen BK173.out 4
              have hfz66_5 := blk_frozen BK173.out 5
              go_wp2
              go_meet
              case rel => exact ⟨_, (true), (by rfl), H', ⟨by have := HJ1.out; have := HJ17.out; omega⟩, ⟨by (with_reducible repeat (fail)); exact BK173.out⟩, ⟨by repeat ((with_reducible exact HB.out))⟩⟩
            rw [if_neg c63] at H
            have c63b0 : (a0_1 == 3) = false := beq_eq_false_iff_ne.mpr c63
            have c63b1 : (a0_1 != 3) = true := bne_iff_ne.mpr c63
            have H' := Aside0.mk H
            clear H
            have hcz67_0 : wc.cell? ⟨gb173, 0, none⟩ = some (.int .i64 a0_0) := (blk_cell BK173.out 0).trans rfl
            have hcz67_1 : wc.cell? ⟨gb173, 1, none⟩ = some (.int .i64 a0_1) := (blk_cell BK173.out 1).trans rfl
            have hcz67_2 : wc.cell? ⟨gb173, 2, none⟩ = some (.slice A0_2 l0_2.length c0_2) := (blk_cell BK173.out 2).trans rfl
            have hcz67_3 : wc.cell? ⟨gb173, 3, none⟩ = some (.slice A0_3 l0_3.length c0_3) := (blk_cell BK173.out 3).trans rfl
            have hcz67_4 : wc.cell? ⟨gb173, 4, none⟩ = some (.bool a0_4) := (blk_cell BK173.out 4).trans rfl
            have hcz67_5 : wc.cell? ⟨gb173, 5, none⟩ = some (.int .i64 a0_5) := (blk_cell BK173.out 5).trans rfl
            have hfz67_0 := blk_frozen BK173.out 0
            have hfz67_1 := blk_frozen BK173.out 1
            have hfz67_2 := blk_frozen BK173.out 2
            have hfz67_3 := blk_frozen BK173.out 3
            have hfz67_4 := blk_frozen BK173.out 4
            have hfz67_5 := blk_frozen BK173.out 5
            go_wp2
            go_meet
            case rel => exact ⟨_, (false), (by rfl), H', ⟨by have := HJ1.out; have := HJ17.out; omega⟩, ⟨by (with_reducible repeat (fail)); exact BK173.out⟩, ⟨by repeat ((with_reducible exact HB.out))⟩⟩
          case rest =>
            clear HC22
            obtain ⟨kq, x93_21, rfl, HA, HJ21, BK173, HB⟩ := hcut
            cases kq with
            | zero => exact absurd HA.out (by simp [legationref17_Check.j2])
            | succ kj21 =>
              have H := HA.out
              clear HA
              simp only [legationref17_Check.j2] at H
              by_cases c68 : x93_21 = true
              · subst c68
                have H1 : (some 2) = some r := by rw [if_pos rfl] at H; exact H
                clear H
                have H := H1
                clear H1
                obtain rfl := Option.some.inj H
                go_wp2
                go_ret
                exact ⟨by rfl, by repeat ((with_reducible exact HB.out))⟩
              replace c68 := Bool.eq_false_iff.mpr c68
              subst c68
              have H1 : (if (l0_3.length : Int) > 1024 then (some 3) else (some 0)) = some r := by rw [if_neg (show ¬ (false = true) by decide)] at H; exact H
              clear H
              have H := H1
              clear H1
              by_cases c69 : (l0_3.length : Int) > 1024
              · rw [if_pos c69] at H
                have c69b0 : decide (1024 < (l0_3.length : Int)) = true := decide_eq_true c69
                have c69b1 : decide (1024 < l0_3.length) = true := decide_eq_true (by omega)
                clear c69
                obtain rfl := Option.some.inj H
                have hcz70_0 : wc.cell? ⟨gb173, 0, none⟩ = some (.int .i64 a0_0) := (blk_cell BK173.out 0).trans rfl
                have hcz70_1 : wc.cell? ⟨gb173, 1, none⟩ = some (.int .i64 a0_1) := (blk_cell BK173.out 1).trans rfl
                have hcz70_2 : wc.cell? ⟨gb173, 2, none⟩ = some (.slice A0_2 l0_2.length c0_2) := (blk_cell BK173.out 2).trans rfl
                have hcz70_3 : wc.cell? ⟨gb173, 3, none⟩ = some (.slice A0_3 l0_3.length c0_3) := (blk_cell BK173.out 3).trans rfl
                have hcz70_4 : wc.cell? ⟨gb173, 4, none⟩ = some (.bool a0_4) := (blk_cell BK173.out 4).trans rfl
                have hcz70_5 : wc.cell? ⟨gb173, 5, none⟩ = some (.int .i64 a0_5) := (blk_cell BK173.out 5).trans rfl
                have hfz70_0 := blk_frozen BK173.out 0
                have hfz70_1 := blk_frozen BK173.out 1
                have hfz70_2 := blk_frozen BK173.out 2
                have hfz70_3 := blk_frozen BK173.out 3
                have hfz70_4 := blk_frozen BK173.out 4
                have hfz70_5 := blk_frozen BK173.out 5
                go_wp2
                go_ret
                exact ⟨by rfl, by repeat ((with_reducible exact HB.out))⟩
              rw [if_neg c69] at H
              have c69b0 : decide (1024 < (l0_3.length : Int)) = false := decide_eq_false c69
              have c69b1 : decide (1024 < l0_3.length) = false := decide_eq_false (by omega)
              clear c69
              obtain rfl := Option.some.inj H
              have hcz71_0 : wc.cell? ⟨gb173, 0, none⟩ = some (.int .i64 a0_0) := (blk_cell BK173.out 0).trans rfl
              have hcz71_1 : wc.cell? ⟨gb173, 1, none⟩ = some (.int .i64 a0_1) := (blk_cell BK173.out 1).trans rfl
              have hcz71_2 : wc.cell? ⟨gb173, 2, none⟩ = some (.slice A0_2 l0_2.length c0_2) := (blk_cell BK173.out 2).trans rfl
              have hcz71_3 : wc.cell? ⟨gb173, 3, none⟩ = some (.slice A0_3 l0_3.length c0_3) := (blk_cell BK173.out 3).trans rfl
              have hcz71_4 : wc.cell? ⟨gb173, 4, none⟩ = some (.bool a0_4) := (blk_cell BK173.out 4).trans rfl
              have hcz71_5 : wc.cell? ⟨gb173, 5, none⟩ = some (.int .i64 a0_5) := (blk_cell BK173.out 5).trans rfl
              have hfz71_0 := blk_frozen BK173.out 0
              have hfz71_1 := blk_frozen BK173.out 1
              have hfz71_2 := blk_frozen BK173.out 2
              have hfz71_3 := blk_frozen BK173.out 3
              have hfz71_4 := blk_frozen BK173.out 4
              have hfz71_5 := blk_frozen BK173.out 5
              go_wp2
              go_ret
              exact ⟨by rfl, by repeat ((with_reducible exact HB.out))⟩
end Go.Proofs.YtgabadlneeffkaaGreatDoor.C
