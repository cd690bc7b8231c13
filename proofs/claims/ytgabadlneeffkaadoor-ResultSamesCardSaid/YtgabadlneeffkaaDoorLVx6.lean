-- Written by lp.py: a program of this session's over the kit's printer. Not trusted: Lean checks it.
import Derived.Test.YtgabadlneeffkaaDoorLVx0
import Derived.Test.YtgabadlneeffkaaDoorLVx5
namespace Go.Proofs.YtgabadlneeffkaaDoor.S
open Go.RowKit Go.Proofs.YtgabadlneeffkaaDoorW.PrintWords Go.Proofs.YtgabadlneeffkaaDoorW.PrintLast Go.Proofs.YtgabadlneeffkaaDoorW.PrintMore
attribute [local go_sem] max2_int min2_int max_two min_two max_three min_three max_four min_four
set_option linter.unusedVariables false
set_option linter.unusedSimpArgs false
mutual
def result_Check.j0 : Nat → Bool → Int → Int → List ByteArray → List (List (S43)) → Bool → Int → Option (Int)
  | 0, _, _, _, _, _, _, _ => none
  | k + 1, x38, x124000, x124001, x124002, x124003, x124004, x124005 => if x38 = true then (some 1) else (if x124001 = 1 then (if x124004 = true then (result_Check.j1 k true x124000 x124001 x124002 x124003 x124004 x124005 x124002) else (if x124005 = 0 then ((table_Check.f k x124002 ([] : List (List (S43)))).bind fun t125 => (result_Check.j1 k (t125 != 0) x124000 x124001 x124002 x124003 x124004 x124005 x124002)) else (result_Check.j1 k true x124000 x124001 x124002 x124003 x124004 x124005 x124002))) else (if x124001 = 2 then ((result_empty.f x124002 x124003).bind fun t131 => (if t131 = true then (if x124005 = 0 then (some 0) else (some 2)) else (some 2))) else (if x124001 = 3 then ((result_empty.f x124002 x124003).bind fun t132 => (if t132 = true then (if x124004 = true then (some 2) else (some 0)) else (some 2))) else (some 0))))
def result_Check.j1 : Nat → Bool → Int → Int → List ByteArray → List (List (S43)) → Bool → Int → List ByteArray → Option (Int)
  | 0, _, _, _, _, _, _, _, _ => none
  | k + 1, x58, x124000, x124001, x124002, x124003, x124004, x124005, x125000 => if x58 = true then (some 2) else (result_Check.l0 k x124003 (x124003.length : Int) 0 x124000 x124001 x124002 x124003 x124004 x124005 x125000 ([] : List (List (S43))))
def result_Check.l0 : Nat → List (List (S43)) → Int → Int → Int → Int → List ByteArray → List (List (S43)) → Bool → Int → List ByteArray → List (List (S43)) → Option (Int)
  | 0, _, _, _, _, _, _, _, _, _, _, _ => none
  | k + 1, x61, x62, x63, x124000, x124001, x124002, x124003, x124004, x124005, x125000, x125001 => if x63 < x62 then (if 0 ≤ x63 then (if x63 < (x61.length : Int) then ((some (([rd_L3 x61 x63] : List (List (S43))) : List (List (S43)))).bind fun y127 => ((table_Check.f k x125000 y127).bind fun t130 => (if t130 = 0 then (result_Check.l0 k x61 x62 (wrap64 (x63 + 1)) x124000 x124001 x124002 x124003 x124004 x124005 x125000 y127) else (some 2)))) else (none)) else (none)) else (if (x124003.length : Int) > 1024 then (some 3) else (some 0))
end
def result_Check.f (k : Nat) (a0_0 : Int) (a0_1 : Int) (l0_2 : List ByteArray) (l0_3 : List (List (S43))) (a0_4 : Bool) (a0_5 : Int) : Option (Int) := if a0_0 < 0 then (result_Check.j0 k true a0_0 a0_1 l0_2 l0_3 a0_4 a0_5) else (if a0_0 ≥ 4096 then (result_Check.j0 k true a0_0 a0_1 l0_2 l0_3 a0_4 a0_5) else (if a0_1 < 1 then (result_Check.j0 k true a0_0 a0_1 l0_2 l0_3 a0_4 a0_5) else (if a0_1 > 3 then (result_Check.j0 k true a0_0 a0_1 l0_2 l0_3 a0_4 a0_5) else (if a0_1 = 3 then (if a0_5 < 1 then (result_Check.j0 k true a0_0 a0_1 l0_2 l0_3 a0_4 a0_5) else (result_Check.j0 k (decide (a0_5 > 9)) a0_0 a0_1 l0_2 l0_3 a0_4 a0_5)) else (result_Check.j0 k false a0_0 a0_1 l0_2 l0_3 a0_4 a0_5)))))
set_option maxHeartbeats 8000000 in
set_option maxRecDepth 100000 in
theorem result_Check.calls (k : Nat) (a0_0 : Int) (a0_1 : Int) (A0_2 : Option Addr) (c0_2 : Nat) (l0_2 : List ByteArray) (P0_3_ : Nat → Prop) (A0_3 : Option Addr) (c0_3 : Nat) (l0_3 : List (List (S43))) (a0_4 : Bool) (a0_5 : Int) (r : Int) (w : World) (hr0_2 : Kd.C Kd.string w A0_2 l0_2.length l0_2) (hc0_2 : l0_2.length ≤ c0_2) (hs0_3 : Kd.V (Kd.slice 43 k43) 40 w w.heap.size (fun k_ => P0_3_ k_) (.slice A0_3 l0_3.length c0_3) l0_3) (h : result_Check.f k a0_0 a0_1 l0_2 l0_3 a0_4 a0_5 = some r) :
    Calls Tryd.prog 10 #[.agg #[.int .i64 a0_0, .int .i64 a0_1, .slice A0_2 l0_2.length c0_2, .slice A0_3 l0_3.length c0_3, .bool a0_4, .int .i64 a0_5]] w fun e w' => e = .returned (.int .i64 r) ∧ Below w.heap.size w w' := by
  have hu28 := Tryd.underlying28
  have hu25 := Tryd.underlying25
  have HR0_2 := Aside0.mk hr0_2
  have HC0_2 := Aside0.mk hc0_2
  clear hr0_2 hc0_2
  have HO0_3 := Aside0.mk (show Kd.V (Kd.slice 43 k43) 40 w w.heap.size (fun k_ => (P0_3_ k_ ∨ w.heap.size ≤ k_)) (.slice A0_3 l0_3.length c0_3) l0_3 from Kd.V_mono hs0_3 (fun k_ hk => .inl hk))
  have HB := Aside0.mk (Below.refl w.heap.size w)
  have H : (if a0_0 < 0 then (result_Check.j0 k true a0_0 a0_1 l0_2 l0_3 a0_4 a0_5) else (if a0_0 ≥ 4096 then (result_Check.j0 k true a0_0 a0_1 l0_2 l0_3 a0_4 a0_5) else (if a0_1 < 1 then (result_Check.j0 k true a0_0 a0_1 l0_2 l0_3 a0_4 a0_5) else (if a0_1 > 3 then (result_Check.j0 k true a0_0 a0_1 l0_2 l0_3 a0_4 a0_5) else (if a0_1 = 3 then (if a0_5 < 1 then (result_Check.j0 k true a0_0 a0_1 l0_2 l0_3 a0_4 a0_5) else (result_Check.j0 k (decide (a0_5 > 9)) a0_0 a0_1 l0_2 l0_3 a0_4 a0_5)) else (result_Check.j0 k false a0_0 a0_1 l0_2 l0_3 a0_4 a0_5)))))) = some r := h
  clear h
  have HC2 := Aside0.mk H
  clear H
  go_enter Tryd.func10, Tryd.ntmps10
  go_upto_region 1 with (((with_reducible refine gate_dst (N := 1) rfl ?_); refine box_event ?hg (N := 1) ?hd (cs := #[.int .i64 a0_0, .int .i64 a0_1, .slice A0_2 l0_2.length c0_2, .slice A0_3 l0_3.length c0_3, .bool a0_4, .int .i64 a0_5]) (t := 28) ?hr ?_; (case hd => rfl); (case hg => rfl); (case hr => (go_simp; done)); intro gb123 hg w3 hbox hb; have n0_ := Aside0.mk (Kd.V_below (Kd.V_elderB (by (with_reducible repeat (fail)); exact HO0_3.out) gb123 (Nat.le_of_eq hg.symm)) hb); have n1_ := Aside0.mk (below_step (by repeat ((with_reducible exact HB.out))) hb); have n2_ := Aside0.mk (hbox); have n3_ := Aside0.mk ((by rw [hg]; exact (below_size (by repeat ((with_reducible exact HB.out)))) : w.heap.size ≤ gb123)); have n4_ := Aside0.mk ((by rw [hg]; exact (below_size (by repeat ((with_reducible exact HB.out)))) : w.heap.size ≤ gb123)); clear HO0_3; clear HB; have HO0_3 := n0_; have HB := n1_; have BK123 := n2_; have GW123 := n3_; have GE123 := n4_; clear n0_ n1_ n2_ n3_ n4_; clear hb hbox hg))
  go_cut [38] (fun v38 wc => ∃ (kq : Nat) (x38_1 : Bool), v38 = .bool x38_1 ∧ Aside0 (result_Check.j0 kq x38_1 a0_0 a0_1 l0_2 l0_3 a0_4 a0_5 = some r) ∧ Aside0 (kq ≤ k) ∧ Aside0 (Kd.V (Kd.slice 43 k43) 40 wc w.heap.size (fun k_ => (P0_3_ k_ ∨ w.heap.size ≤ k_) ∧ k_ ≠ gb123) (.slice A0_3 l0_3.length c0_3) l0_3) ∧ Aside0 (wc.heap[gb123]? = some (.cells #[.int .i64 a0_0, .int .i64 a0_1, (.slice A0_2 l0_2.length c0_2), (.slice A0_3 l0_3.length c0_3), .bool a0_4, .int .i64 a0_5] 28 (0, 0))) ∧ Aside0 (Below w.heap.size w wc))
  case first =>
    have H := HC2.out
    clear HC2
    by_cases c4 : a0_0 < 0
    · rw [if_pos c4] at H
      have c4b0 : decide (a0_0 < 0) = true := decide_eq_true c4
      clear c4
      have H' := Aside0.mk H
      clear H
      have hcz5_0 : w3.cell? ⟨gb123, 0, none⟩ = some (.int .i64 a0_0) := (blk_cell BK123.out 0).trans rfl
      have hcz5_1 : w3.cell? ⟨gb123, 1, none⟩ = some (.int .i64 a0_1) := (blk_cell BK123.out 1).trans rfl
      have hcz5_2 : w3.cell? ⟨gb123, 2, none⟩ = some (.slice A0_2 l0_2.length c0_2) := (blk_cell BK123.out 2).trans rfl
      have hcz5_3 : w3.cell? ⟨gb123, 3, none⟩ = some (.slice A0_3 l0_3.length c0_3) := (blk_cell BK123.out 3).trans rfl
      have hcz5_4 : w3.cell? ⟨gb123, 4, none⟩ = some (.bool a0_4) := (blk_cell BK123.out 4).trans rfl
      have hcz5_5 : w3.cell? ⟨gb123, 5, none⟩ = some (.int .i64 a0_5) := (blk_cell BK123.out 5).trans rfl
      have hfz5_0 := blk_frozen BK123.out 0
      have hfz5_1 := blk_frozen BK123.out 1
      have hfz5_2 := blk_frozen BK123.out 2
      have hfz5_3 := blk_frozen BK123.out 3
      have hfz5_4 := blk_frozen BK123.out 4
      have hfz5_5 := blk_frozen BK123.out 5
      go_wp2
      go_meet
      case rel => exact ⟨_, (true), (by rfl), H', ⟨by omega⟩, ⟨by (with_reducible repeat (fail)); exact HO0_3.out⟩, ⟨by (with_reducible repeat (fail)); exact BK123.out⟩, ⟨by repeat ((with_reducible exact HB.out))⟩⟩
    rw [if_neg c4] at H
    have c4b0 : decide (a0_0 < 0) = false := decide_eq_false c4
    clear c4
    by_cases c6 : a0_0 ≥ 4096
    · rw [if_pos c6] at H
      have c6b0 : decide (4096 ≤ a0_0) = true := decide_eq_true c6
      clear c6
      have H' := Aside0.mk H
      clear H
      have hcz7_0 : w3.cell? ⟨gb123, 0, none⟩ = some (.int .i64 a0_0) := (blk_cell BK123.out 0).trans rfl
      have hcz7_1 : w3.cell? ⟨gb123, 1, none⟩ = some (.int .i64 a0_1) := (blk_cell BK123.out 1).trans rfl
      have hcz7_2 : w3.cell? ⟨gb123, 2, none⟩ = some (.slice A0_2 l0_2.length c0_2) := (blk_cell BK123.out 2).trans rfl
      have hcz7_3 : w3.cell? ⟨gb123, 3, none⟩ = some (.slice A0_3 l0_3.length c0_3) := (blk_cell BK123.out 3).trans rfl
      have hcz7_4 : w3.cell? ⟨gb123, 4, none⟩ = some (.bool a0_4) := (blk_cell BK123.out 4).trans rfl
      have hcz7_5 : w3.cell? ⟨gb123, 5, none⟩ = some (.int .i64 a0_5) := (blk_cell BK123.out 5).trans rfl
      have hfz7_0 := blk_frozen BK123.out 0
      have hfz7_1 := blk_frozen BK123.out 1
      have hfz7_2 := blk_frozen BK123.out 2
      have hfz7_3 := blk_frozen BK123.out 3
      have hfz7_4 := blk_frozen BK123.out 4
      have hfz7_5 := blk_frozen BK123.out 5
      go_wp2
      go_meet
      case rel => exact ⟨_, (true), (by rfl), H', ⟨by omega⟩, ⟨by (with_reducible repeat (fail)); exact HO0_3.out⟩, ⟨by (with_reducible repeat (fail)); exact BK123.out⟩, ⟨by repeat ((with_reducible exact HB.out))⟩⟩
    rw [if_neg c6] at H
    have c6b0 : decide (4096 ≤ a0_0) = false := decide_eq_false c6
    clear c6
    by_cases c8 : a0_1 < 1
    · rw [if_pos c8] at H
      have c8b0 : decide (a0_1 < 1) = true := decide_eq_true c8
      clear c8
      have H' := Aside0.mk H
      clear H
      have hcz9_0 : w3.cell? ⟨gb123, 0, none⟩ = some (.int .i64 a0_0) := (blk_cell BK123.out 0).trans rfl
      have hcz9_1 : w3.cell? ⟨gb123, 1, none⟩ = some (.int .i64 a0_1) := (blk_cell BK123.out 1).trans rfl
      have hcz9_2 : w3.cell? ⟨gb123, 2, none⟩ = some (.slice A0_2 l0_2.length c0_2) := (blk_cell BK123.out 2).trans rfl
      have hcz9_3 : w3.cell? ⟨gb123, 3, none⟩ = some (.slice A0_3 l0_3.length c0_3) := (blk_cell BK123.out 3).trans rfl
      have hcz9_4 : w3.cell? ⟨gb123, 4, none⟩ = some (.bool a0_4) := (blk_cell BK123.out 4).trans rfl
      have hcz9_5 : w3.cell? ⟨gb123, 5, none⟩ = some (.int .i64 a0_5) := (blk_cell BK123.out 5).trans rfl
      have hfz9_0 := blk_frozen BK123.out 0
      have hfz9_1 := blk_frozen BK123.out 1
      have hfz9_2 := blk_frozen BK123.out 2
      have hfz9_3 := blk_frozen BK123.out 3
      have hfz9_4 := blk_frozen BK123.out 4
      have hfz9_5 := blk_frozen BK123.out 5
      go_wp2
      go_meet
      case rel => exact ⟨_, (true), (by rfl), H', ⟨by omega⟩, ⟨by (with_reducible repeat (fail)); exact HO0_3.out⟩, ⟨by (with_reducible repeat (fail)); exact BK123.out⟩, ⟨by repeat ((with_reducible exact HB.out))⟩⟩
    rw [if_neg c8] at H
    have c8b0 : decide (a0_1 < 1) = false := decide_eq_false c8
    clear c8
    by_cases c10 : a0_1 > 3
    · rw [if_pos c10] at H
      have c10b0 : decide (3 < a0_1) = true := decide_eq_true c10
      clear c10
      have H' := Aside0.mk H
      clear H
      have hcz11_0 : w3.cell? ⟨gb123, 0, none⟩ = some (.int .i64 a0_0) := (blk_cell BK123.out 0).trans rfl
      have hcz11_1 : w3.cell? ⟨gb123, 1, none⟩ = some (.int .i64 a0_1) := (blk_cell BK123.out 1).trans rfl
      have hcz11_2 : w3.cell? ⟨gb123, 2, none⟩ = some (.slice A0_2 l0_2.length c0_2) := (blk_cell BK123.out 2).trans rfl
      have hcz11_3 : w3.cell? ⟨gb123, 3, none⟩ = some (.slice A0_3 l0_3.length c0_3) := (blk_cell BK123.out 3).trans rfl
      have hcz11_4 : w3.cell? ⟨gb123, 4, none⟩ = some (.bool a0_4) := (blk_cell BK123.out 4).trans rfl
      have hcz11_5 : w3.cell? ⟨gb123, 5, none⟩ = some (.int .i64 a0_5) := (blk_cell BK123.out 5).trans rfl
      have hfz11_0 := blk_frozen BK123.out 0
      have hfz11_1 := blk_frozen BK123.out 1
      have hfz11_2 := blk_frozen BK123.out 2
      have hfz11_3 := blk_frozen BK123.out 3
      have hfz11_4 := blk_frozen BK123.out 4
      have hfz11_5 := blk_frozen BK123.out 5
      go_wp2
      go_meet
      case rel => exact ⟨_, (true), (by rfl), H', ⟨by omega⟩, ⟨by (with_reducible repeat (fail)); exact HO0_3.out⟩, ⟨by (with_reducible repeat (fail)); exact BK123.out⟩, ⟨by repeat ((with_reducible exact HB.out))⟩⟩
    rw [if_neg c10] at H
    have c10b0 : decide (3 < a0_1) = false := decide_eq_false c10
    clear c10
    by_cases c12 : a0_1 = 3
    · rw [if_pos c12] at H
      have c12b0 : (a0_1 == 3) = true := beq_iff_eq.mpr c12
      have c12b1 : (a0_1 != 3) = false := bne_eq_false_iff_eq.mpr c12
      clear c12
      by_cases c13 : a0_5 < 1
      · rw [if_pos c13] at H
        have c13b0 : decide (a0_5 < 1) = true := decide_eq_true c13
        clear c13
        have H' := Aside0.mk H
        clear H
        have hcz14_0 : w3.cell? ⟨gb123, 0, none⟩ = some (.int .i64 a0_0) := (blk_cell BK123.out 0).trans rfl
        have hcz14_1 : w3.cell? ⟨gb123, 1, none⟩ = some (.int .i64 a0_1) := (blk_cell BK123.out 1).trans rfl
        have hcz14_2 : w3.cell? ⟨gb123, 2, none⟩ = some (.slice A0_2 l0_2.length c0_2) := (blk_cell BK123.out 2).trans rfl
        have hcz14_3 : w3.cell? ⟨gb123, 3, none⟩ = some (.slice A0_3 l0_3.length c0_3) := (blk_cell BK123.out 3).trans rfl
        have hcz14_4 : w3.cell? ⟨gb123, 4, none⟩ = some (.bool a0_4) := (blk_cell BK123.out 4).trans rfl
        have hcz14_5 : w3.cell? ⟨gb123, 5, none⟩ = some (.int .i64 a0_5) := (blk_cell BK123.out 5).trans rfl
        have hfz14_0 := blk_frozen BK123.out 0
        have hfz14_1 := blk_frozen BK123.out 1
        have hfz14_2 := blk_frozen BK123.out 2
        have hfz14_3 := blk_frozen BK123.out 3
        have hfz14_4 := blk_frozen BK123.out 4
        have hfz14_5 := blk_frozen BK123.out 5
        go_wp2
        go_meet
        case rel => exact ⟨_, (true), (by rfl), H', ⟨by omega⟩, ⟨by (with_reducible repeat (fail)); exact HO0_3.out⟩, ⟨by (with_reducible repeat (fail)); exact BK123.out⟩, ⟨by repeat ((with_reducible exact HB.out))⟩⟩
      rw [if_neg c13] at H
      have c13b0 : decide (a0_5 < 1) = false := decide_eq_false c13
      clear c13
      have H' := Aside0.mk H
      clear H
      have hcz15_0 : w3.cell? ⟨gb123, 0, none⟩ = some (.int .i64 a0_0) := (blk_cell BK123.out 0).trans rfl
      have hcz15_1 : w3.cell? ⟨gb123, 1, none⟩ = some (.int .i64 a0_1) := (blk_cell BK123.out 1).trans rfl
      have hcz15_2 : w3.cell? ⟨gb123, 2, none⟩ = some (.slice A0_2 l0_2.length c0_2) := (blk_cell BK123.out 2).trans rfl
      have hcz15_3 : w3.cell? ⟨gb123, 3, none⟩ = some (.slice A0_3 l0_3.length c0_3) := (blk_cell BK123.out 3).trans rfl
      have hcz15_4 : w3.cell? ⟨gb123, 4, none⟩ = some (.bool a0_4) := (blk_cell BK123.out 4).trans rfl
      have hcz15_5 : w3.cell? ⟨gb123, 5, none⟩ = some (.int .i64 a0_5) := (blk_cell BK123.out 5).trans rfl
      have hfz15_0 := blk_frozen BK123.out 0
      have hfz15_1 := blk_frozen BK123.out 1
      have hfz15_2 := blk_frozen BK123.out 2
      have hfz15_3 := blk_frozen BK123.out 3
      have hfz15_4 := blk_frozen BK123.out 4
      have hfz15_5 := blk_frozen BK123.out 5
      go_wp2
      go_meet
      case rel => exact ⟨_, (decide (a0_5 > 9)), (by rfl), H', ⟨by omega⟩, ⟨by (with_reducible repeat (fail)); exact HO0_3.out⟩, ⟨by (with_reducible repeat (fail)); exact BK123.out⟩, ⟨by repeat ((with_reducible exact HB.out))⟩⟩
    rw [if_neg c12] at H
    have c12b0 : (a0_1 == 3) = false := beq_eq_false_iff_ne.mpr c12
    have c12b1 : (a0_1 != 3) = true := bne_iff_ne.mpr c12
    have H' := Aside0.mk H
    clear H
    have hcz16_0 : w3.cell? ⟨gb123, 0, none⟩ = some (.int .i64 a0_0) := (blk_cell BK123.out 0).trans rfl
    have hcz16_1 : w3.cell? ⟨gb123, 1, none⟩ = some (.int .i64 a0_1) := (blk_cell BK123.out 1).trans rfl
    have hcz16_2 : w3.cell? ⟨gb123, 2, none⟩ = some (.slice A0_2 l0_2.length c0_2) := (blk_cell BK123.out 2).trans rfl
    have hcz16_3 : w3.cell? ⟨gb123, 3, none⟩ = some (.slice A0_3 l0_3.length c0_3) := (blk_cell BK123.out 3).trans rfl
    have hcz16_4 : w3.cell? ⟨gb123, 4, none⟩ = some (.bool a0_4) := (blk_cell BK123.out 4).trans rfl
    have hcz16_5 : w3.cell? ⟨gb123, 5, none⟩ = some (.int .i64 a0_5) := (blk_cell BK123.out 5).trans rfl
    have hfz16_0 := blk_frozen BK123.out 0
    have hfz16_1 := blk_frozen BK123.out 1
    have hfz16_2 := blk_frozen BK123.out 2
    have hfz16_3 := blk_frozen BK123.out 3
    have hfz16_4 := blk_frozen BK123.out 4
    have hfz16_5 := blk_frozen BK123.out 5
    go_wp2
    go_meet
    case rel => exact ⟨_, (false), (by rfl), H', ⟨by omega⟩, ⟨by (with_reducible repeat (fail)); exact HO0_3.out⟩, ⟨by (with_reducible repeat (fail)); exact BK123.out⟩, ⟨by repeat ((with_reducible exact HB.out))⟩⟩
  case rest =>
    clear HC2
    obtain ⟨kq, x38_1, rfl, HA, HJ1, HO_124003, BK123, HB⟩ := hcut
    cases kq with
    | zero => exact absurd HA.out (by simp [result_Check.j0])
    | succ kj1 =>
      have H := HA.out
      clear HA
      simp only [result_Check.j0] at H
      by_cases c17 : x38_1 = true
      · subst c17
        have H1 : (some 1) = some r := by rw [if_pos rfl] at H; exact H
        clear H
        have H := H1
        clear H1
        obtain rfl := Option.some.inj H
        go_wp2
        go_ret
        exact ⟨by rfl, by repeat ((with_reducible exact HB.out))⟩
      replace c17 := Bool.eq_false_iff.mpr c17
      subst c17
      have H1 : (if a0_1 = 1 then (if a0_4 = true then (result_Check.j1 kj1 true a0_0 a0_1 l0_2 l0_3 a0_4 a0_5 l0_2) else (if a0_5 = 0 then ((table_Check.f kj1 l0_2 ([] : List (List (S43)))).bind fun t125 => (result_Check.j1 kj1 (t125 != 0) a0_0 a0_1 l0_2 l0_3 a0_4 a0_5 l0_2)) else (result_Check.j1 kj1 true a0_0 a0_1 l0_2 l0_3 a0_4 a0_5 l0_2))) else (if a0_1 = 2 then ((result_empty.f l0_2 l0_3).bind fun t131 => (if t131 = true then (if a0_5 = 0 then (some 0) else (some 2)) else (some 2))) else (if a0_1 = 3 then ((result_empty.f l0_2 l0_3).bind fun t132 => (if t132 = true then (if a0_4 = true then (some 2) else (some 0)) else (some 2))) else (some 0)))) = some r := by rw [if_neg (show ¬ (false = true) by decide)] at H; exact H
      clear H
      have H := H1
      clear H1
      by_cases c18 : a0_1 = 1
      · rw [if_pos c18] at H
        have c18b0 : (a0_1 == 1) = true := beq_iff_eq.mpr c18
        have c18b1 : (a0_1 != 1) = false := bne_eq_false_iff_eq.mpr c18
        clear c18
        have HC19 := Aside0.mk H
        clear H
        have hcz20_0 : wc.cell? ⟨gb123, 0, none⟩ = some (.int .i64 a0_0) := (blk_cell BK123.out 0).trans rfl
        have hcz20_1 : wc.cell? ⟨gb123, 1, none⟩ = some (.int .i64 a0_1) := (blk_cell BK123.out 1).trans rfl
        have hcz20_2 : wc.cell? ⟨gb123, 2, none⟩ = some (.slice A0_2 l0_2.length c0_2) := (blk_cell BK123.out 2).trans rfl
        have hcz20_3 : wc.cell? ⟨gb123, 3, none⟩ = some (.slice A0_3 l0_3.length c0_3) := (blk_cell BK123.out 3).trans rfl
        have hcz20_4 : wc.cell? ⟨gb123, 4, none⟩ = some (.bool a0_4) := (blk_cell BK123.out 4).trans rfl
        have hcz20_5 : wc.cell? ⟨gb123, 5, none⟩ = some (.int .i64 a0_5) := (blk_cell BK123.out 5).trans rfl
        have hfz20_0 := blk_frozen BK123.out 0
        have hfz20_1 := blk_frozen BK123.out 1
        have hfz20_2 := blk_frozen BK123.out 2
        have hfz20_3 := blk_frozen BK123.out 3
        have hfz20_4 := blk_frozen BK123.out 4
        have hfz20_5 := blk_frozen BK123.out 5
        go_upto_region 6 with (((with_reducible refine gate_dst (N := 3) rfl ?_); refine box_event ?hg (N := 3) ?hd (cs := #[.slice none 0 0, .slice none 0 0]) (t := 25) ?hr ?_; (case hd => rfl); (case hg => rfl); (case hr => (go_simp; done)); intro gb124 hg w21 hbox hb; have n0_ := Aside0.mk (Kd.V_below (Kd.V_elderB (by (with_reducible repeat (fail)); exact HO_124003.out) gb124 (Nat.le_of_eq hg.symm)) hb); have n1_ := Aside0.mk (blk_below (g := gb123) (o := .cells #[.int .i64 a0_0, .int .i64 a0_1, .slice A0_2 l0_2.length c0_2, .slice A0_3 l0_3.length c0_3, .bool a0_4, .int .i64 a0_5] 28 (0, 0)) (by (with_reducible repeat (fail)); exact BK123.out) hb); have n2_ := Aside0.mk (below_step (by repeat ((with_reducible exact HB.out))) hb); have n3_ := Aside0.mk (hbox); have n4_ := Aside0.mk ((by rw [hg]; exact (below_size (by repeat ((with_reducible exact HB.out)))) : w.heap.size ≤ gb124)); have n5_ := Aside0.mk ((by rw [hg]; exact (below_size (by repeat ((with_reducible exact HB.out)))) : w.heap.size ≤ gb124)); have n6_ := Aside0.mk ((by rw [hg]; exact Nat.ne_of_lt (blk_lt (g := gb123) (o := .cells #[.int .i64 a0_0, .int .i64 a0_1, .slice A0_2 l0_2.length c0_2, .slice A0_3 l0_3.length c0_3, .bool a0_4, .int .i64 a0_5] 28 (0, 0)) (by (with_reducible repeat (fail)); exact BK123.out)) : gb123 ≠ gb124)); have n7_ := Aside0.mk ((by rw [hg]; exact Nat.ne_of_gt (blk_lt (g := gb123) (o := .cells #[.int .i64 a0_0, .int .i64 a0_1, .slice A0_2 l0_2.length c0_2, .slice A0_3 l0_3.length c0_3, .bool a0_4, .int .i64 a0_5] 28 (0, 0)) (by (with_reducible repeat (fail)); exact BK123.out)) : gb124 ≠ gb123)); clear HO_124003; clear BK123; clear HB; have HO_124003 := n0_; have BK123 := n1_; have HB := n2_; have BK124 := n3_; have GW124 := n4_; have GE124 := n5_; have NB123_124 := n6_; have NB124_123 := n7_; clear n0_ n1_ n2_ n3_ n4_ n5_ n6_ n7_; clear hb hbox hg; have hnb22 := NB124_123.out; have hnc22 := NB123_124.out; have hcz23_0 : w21.cell? ⟨gb124, 0, none⟩ = some (.slice none 0 0) := (blk_cell BK124.out 0).trans rfl; have hcz23_1 : w21.cell? ⟨gb124, 1, none⟩ = some (.slice none 0 0) := (blk_cell BK124.out 1).trans rfl; have hfz23_0 := blk_frozen BK124.out 0; have hfz23_1 := blk_frozen BK124.out 1))
        go_cut [58] (fun v58 wc => ∃ (kq : Nat) (x58_18 : Bool), v58 = .bool x58_18 ∧ Aside0 (result_Check.j1 kq x58_18 a0_0 a0_1 l0_2 l0_3 a0_4 a0_5 l0_2 = some r) ∧ Aside0 (kq ≤ kj1) ∧ Aside0 (Kd.V (Kd.slice 43 k43) 40 wc w.heap.size (fun k_ => (P0_3_ k_ ∨ w.heap.size ≤ k_) ∧ k_ ≠ gb123 ∧ k_ ≠ gb124) (.slice A0_3 l0_3.length c0_3) l0_3) ∧ Aside0 (wc.heap[gb123]? = some (.cells #[.int .i64 a0_0, .int .i64 a0_1, (.slice A0_2 l0_2.length c0_2), (.slice A0_3 l0_3.length c0_3), .bool a0_4, .int .i64 a0_5] 28 (0, 0))) ∧ Aside0 (wc.heap[gb124]? = some (.cells #[(.slice A0_2 l0_2.length c0_2), (.slice none 0 0)] 25 (0, 0))) ∧ Aside0 (Below w.heap.size w wc))
        case first =>
          have H := HC19.out
          clear HC19
          by_cases c24 : a0_4 = true
          · subst c24
            have H1 : (result_Check.j1 kj1 true a0_0 a0_1 l0_2 l0_3 true a0_5 l0_2) = some r := by rw [if_pos rfl] at H; exact H
            clear H
            have H := H1
            clear H1
            have H' := Aside0.mk H
            clear H
            have hnb25 := NB123_124.out
            have hnc25 := NB124_123.out
            have hcz26_0 : w21.cell? ⟨gb123, 0, none⟩ = some (.int .i64 a0_0) := (blk_cell BK123.out 0).trans rfl
            have hcz26_1 : w21.cell? ⟨gb123, 1, none⟩ = some (.int .i64 a0_1) := (blk_cell BK123.out 1).trans rfl
            have hcz26_2 : w21.cell? ⟨gb123, 2, none⟩ = some (.slice A0_2 l0_2.length c0_2) := (blk_cell BK123.out 2).trans rfl
            have hcz26_3 : w21.cell? ⟨gb123, 3, none⟩ = some (.slice A0_3 l0_3.length c0_3) := (blk_cell BK123.out 3).trans rfl
            have hcz26_4 : w21.cell? ⟨gb123, 4, none⟩ = some (.bool true) := (blk_cell BK123.out 4).trans rfl
            have hcz26_5 : w21.cell? ⟨gb123, 5, none⟩ = some (.int .i64 a0_5) := (blk_cell BK123.out 5).trans rfl
            have hfz26_0 := blk_frozen BK123.out 0
            have hfz26_1 := blk_frozen BK123.out 1
            have hfz26_2 := blk_frozen BK123.out 2
            have hfz26_3 := blk_frozen BK123.out 3
            have hfz26_4 := blk_frozen BK123.out 4
            have hfz26_5 := blk_frozen BK123.out 5
            go_wp2
            go_meet
            case rel => exact ⟨_, (true), (by rfl), H', ⟨by have := HJ1.out; omega⟩, ⟨by (with_reducible repeat (fail)); exact Kd.V_mono (Kd.V_far (p := ⟨gb124, 1, none⟩) (Kd.V_far (p := ⟨gb124, 0, none⟩) (Kd.V_mono HO_124003.out (fun k_ hk => (⟨hk, hk.2⟩ : _ ∧ k_ ≠ gb124))) (fun _ hk => hk.2) (.slice A0_2 l0_2.length c0_2)) (fun _ hk => hk.2) (.slice none 0 0)) (fun _ hk => ⟨hk.1.1.1, ⟨hk.1.1.2, hk.1.2⟩⟩)⟩, ⟨by (with_reducible repeat (fail)); refine blk_far ?_ NB123_124.out _; (with_reducible repeat (fail)); refine blk_far ?_ NB123_124.out _; (with_reducible repeat (fail)); exact BK123.out⟩, ⟨by (with_reducible repeat (fail)); refine blk_put (cs := #[.slice A0_2 l0_2.length c0_2, .slice none 0 0]) ?_ 1 _ rfl; (with_reducible repeat (fail)); refine blk_put (cs := #[.slice none 0 0, .slice none 0 0]) ?_ 0 _ rfl; (with_reducible repeat (fail)); exact BK124.out⟩, ⟨by repeat ((with_reducible first | exact HB.out | refine below_set ?_ GE124.out))⟩⟩
          replace c24 := Bool.eq_false_iff.mpr c24
          subst c24
          have H1 : (if a0_5 = 0 then ((table_Check.f kj1 l0_2 ([] : List (List (S43)))).bind fun t125 => (result_Check.j1 kj1 (t125 != 0) a0_0 a0_1 l0_2 l0_3 false a0_5 l0_2)) else (result_Check.j1 kj1 true a0_0 a0_1 l0_2 l0_3 false a0_5 l0_2)) = some r := by rw [if_neg (show ¬ (false = true) by decide)] at H; exact H
          clear H
          have H := H1
          clear H1
          by_cases c27 : a0_5 = 0
          · rw [if_pos c27] at H
            have c27b0 : (a0_5 == 0) = true := beq_iff_eq.mpr c27
            have c27b1 : (a0_5 != 0) = false := bne_eq_false_iff_eq.mpr c27
            clear c27
            replace H := Option.bind_eq_some_iff.mp H
            obtain ⟨t125, A280, H⟩ := H
            replace H : (result_Check.j1 kj1 (t125 != 0) a0_0 a0_1 l0_2 l0_3 false a0_5 l0_2) = some r := H
            have A28 := Aside0.mk A280
            clear A280
            have H' := Aside0.mk H
            clear H
            have hnb29 := NB123_124.out
            have hnc29 := NB124_123.out
            have hcz30_0 : w21.cell? ⟨gb123, 0, none⟩ = some (.int .i64 a0_0) := (blk_cell BK123.out 0).trans rfl
            have hcz30_1 : w21.cell? ⟨gb123, 1, none⟩ = some (.int .i64 a0_1) := (blk_cell BK123.out 1).trans rfl
            have hcz30_2 : w21.cell? ⟨gb123, 2, none⟩ = some (.slice A0_2 l0_2.length c0_2) := (blk_cell BK123.out 2).trans rfl
            have hcz30_3 : w21.cell? ⟨gb123, 3, none⟩ = some (.slice A0_3 l0_3.length c0_3) := (blk_cell BK123.out 3).trans rfl
            have hcz30_4 : w21.cell? ⟨gb123, 4, none⟩ = some (.bool false) := (blk_cell BK123.out 4).trans rfl
            have hcz30_5 : w21.cell? ⟨gb123, 5, none⟩ = some (.int .i64 a0_5) := (blk_cell BK123.out 5).trans rfl
            have hfz30_0 := blk_frozen BK123.out 0
            have hfz30_1 := blk_frozen BK123.out 1
            have hfz30_2 := blk_frozen BK123.out 2
            have hfz30_3 := blk_frozen BK123.out 3
            have hfz30_4 := blk_frozen BK123.out 4
            have hfz30_5 := blk_frozen BK123.out 5
            have hcz31_0 : w21.cell? ⟨gb124, 0, none⟩ = some (.slice none 0 0) := (blk_cell BK124.out 0).trans rfl
            have hcz31_1 : w21.cell? ⟨gb124, 1, none⟩ = some (.slice none 0 0) := (blk_cell BK124.out 1).trans rfl
            have hfz31_0 := blk_frozen BK124.out 0
            have hfz31_1 := blk_frozen BK124.out 1
            go_wp2_with ((go_at_call 26; (refine (table_Check.calls kj1 _ _ l0_2 _ _ ([] : List (List (S43))) t125 _ ?side1 ?side2 ?side3 ?side4 A28.out).mono ?_); (case side1 => exact Kd.C_below HR0_2.out (by repeat ((with_reducible first | exact HB.out | refine below_set ?_ GE124.out)))); (case side2 => exact HC0_2.out); (case side3 => exact Kd.C_nil _ _); (case side4 => exact Nat.le_refl _); rintro e w32 ⟨rfl, hb⟩; have n0_ := Aside0.mk (Kd.V_below (by (with_reducible repeat (fail)); exact (Kd.V_mono (Kd.V_far (p := ⟨gb124, 1, none⟩) (Kd.V_far (p := ⟨gb124, 0, none⟩) (Kd.V_mono HO_124003.out (fun k_ hk => (⟨hk, hk.2⟩ : _ ∧ k_ ≠ gb124))) (fun _ hk => hk.2) (.slice A0_2 l0_2.length c0_2)) (fun _ hk => hk.2) (.slice none 0 0)) (fun _ h_ => h_.1))) hb); have n1_ := Aside0.mk (blk_below (g := gb123) (o := .cells #[.int .i64 a0_0, .int .i64 a0_1, .slice A0_2 l0_2.length c0_2, .slice A0_3 l0_3.length c0_3, .bool false, .int .i64 a0_5] 28 (0, 0)) (by (with_reducible repeat (fail)); refine blk_far ?_ NB123_124.out _; (with_reducible repeat (fail)); refine blk_far ?_ NB123_124.out _; (with_reducible repeat (fail)); exact BK123.out) hb); have n2_ := Aside0.mk (blk_below (g := gb124) (o := .cells #[.slice A0_2 l0_2.length c0_2, .slice none 0 0] 25 (0, 0)) (by (with_reducible repeat (fail)); refine blk_put (cs := #[.slice A0_2 l0_2.length c0_2, .slice none 0 0]) ?_ 1 _ rfl; (with_reducible repeat (fail)); refine blk_put (cs := #[.slice none 0 0, .slice none 0 0]) ?_ 0 _ rfl; (with_reducible repeat (fail)); exact BK124.out) hb); have n3_ := Aside0.mk (below_step (by repeat ((with_reducible first | exact HB.out | refine below_set ?_ GE124.out))) hb); clear HO_124003; clear BK123; clear BK124; clear HB; have HO_124003 := n0_; have BK123 := n1_; have BK124 := n2_; have HB := n3_; clear n0_ n1_ n2_ n3_; (try clear hb)))
            go_meet
            case rel => exact ⟨_, ((t125 != 0)), (by rfl), H', ⟨by have := HJ1.out; omega⟩, ⟨by (with_reducible repeat (fail)); exact Kd.V_mono HO_124003.out (fun _ hk => ⟨hk.1.1, ⟨hk.1.2, hk.2⟩⟩)⟩, ⟨by (with_reducible repeat (fail)); exact BK123.out⟩, ⟨by (with_reducible repeat (fail)); exact BK124.out⟩, ⟨by repeat ((with_reducible exact HB.out))⟩⟩
          rw [if_neg c27] at H
          have c27b0 : (a0_5 == 0) = false := beq_eq_false_iff_ne.mpr c27
          have c27b1 : (a0_5 != 0) = true := bne_iff_ne.mpr c27
          have H' := Aside0.mk H
          clear H
          have hnb33 := NB123_124.out
          have hnc33 := NB124_123.out
          have hcz34_0 : w21.cell? ⟨gb123, 0, none⟩ = some (.int .i64 a0_0) := (blk_cell BK123.out 0).trans rfl
          have hcz34_1 : w21.cell? ⟨gb123, 1, none⟩ = some (.int .i64 a0_1) := (blk_cell BK123.out 1).trans rfl
          have hcz34_2 : w21.cell? ⟨gb123, 2, none⟩ = some (.slice A0_2 l0_2.length c0_2) := (blk_cell BK123.out 2).trans rfl
          have hcz34_3 : w21.cell? ⟨gb123, 3, none⟩ = some (.slice A0_3 l0_3.length c0_3) := (blk_cell BK123.out 3).trans rfl
          have hcz34_4 : w21.cell? ⟨gb123, 4, none⟩ = some (.bool false) := (blk_cell BK123.out 4).trans rfl
          have hcz34_5 : w21.cell? ⟨gb123, 5, none⟩ = some (.int .i64 a0_5) := (blk_cell BK123.out 5).trans rfl
          have hfz34_0 := blk_frozen BK123.out 0
          have hfz34_1 := blk_frozen BK123.out 1
          have hfz34_2 := blk_frozen BK123.out 2
          have hfz34_3 := blk_frozen BK123.out 3
          have hfz34_4 := blk_frozen BK123.out 4
          have hfz34_5 := blk_frozen BK123.out 5
          go_wp2
          go_meet
          case rel => exact ⟨_, (true), (by rfl), H', ⟨by have := HJ1.out; omega⟩, ⟨by (with_reducible repeat (fail)); exact Kd.V_mono (Kd.V_far (p := ⟨gb124, 1, none⟩) (Kd.V_far (p := ⟨gb124, 0, none⟩) (Kd.V_mono HO_124003.out (fun k_ hk => (⟨hk, hk.2⟩ : _ ∧ k_ ≠ gb124))) (fun _ hk => hk.2) (.slice A0_2 l0_2.length c0_2)) (fun _ hk => hk.2) (.slice none 0 0)) (fun _ hk => ⟨hk.1.1.1, ⟨hk.1.1.2, hk.1.2⟩⟩)⟩, ⟨by (with_reducible repeat (fail)); refine blk_far ?_ NB123_124.out _; (with_reducible repeat (fail)); refine blk_far ?_ NB123_124.out _; (with_reducible repeat (fail)); exact BK123.out⟩, ⟨by (with_reducible repeat (fail)); refine blk_put (cs := #[.slice A0_2 l0_2.length c0_2, .slice none 0 0]) ?_ 1 _ rfl; (with_reducible repeat (fail)); refine blk_put (cs := #[.slice none 0 0, .slice none 0 0]) ?_ 0 _ rfl; (with_reducible repeat (fail)); exact BK124.out⟩, ⟨by repeat ((with_reducible first | exact HB.out | refine below_set ?_ GE124.out))⟩⟩
        case rest =>
          clear HC19
          try clear c18b0
          try clear c18b1
          try clear hcz20_0
          try clear hcz20_1
          try clear hcz20_2
          try clear hcz20_3
          try clear hcz20_4
          try clear hcz20_5
          try clear hcz23_0
          try clear hcz23_1
          try clear hfz20_0
          try clear hfz20_1
          try clear hfz20_2
          try clear hfz20_3
          try clear hfz20_4
          try clear hfz20_5
          try clear hfz23_0
          try clear hfz23_1
          obtain ⟨kq, x58_18, rfl, HA, HJ18, HO_124003, BK123, BK124, HB⟩ := hcut
          cases kq with
          | zero => exact absurd HA.out (by simp [result_Check.j1])
          | succ kj18 =>
            have H := HA.out
            clear HA
            simp only [result_Check.j1] at H
            by_cases c35 : x58_18 = true
            · subst c35
              have H1 : (some 2) = some r := by rw [if_pos rfl] at H; exact H
              clear H
              have H := H1
              clear H1
              obtain rfl := Option.some.inj H
              go_wp2
              go_ret
              exact ⟨by rfl, by repeat ((with_reducible exact HB.out))⟩
            replace c35 := Bool.eq_false_iff.mpr c35
            subst c35
            have H1 : (result_Check.l0 kj18 l0_3 (l0_3.length : Int) 0 a0_0 a0_1 l0_2 l0_3 a0_4 a0_5 l0_2 ([] : List (List (S43)))) = some r := by rw [if_neg (show ¬ (false = true) by decide)] at H; exact H
            clear H
            have H := H1
            clear H1
            have H' := Aside0.mk H
            clear H
            have hnb36 := NB123_124.out
            have hnc36 := NB124_123.out
            have hcz37_0 : wc.cell? ⟨gb123, 0, none⟩ = some (.int .i64 a0_0) := (blk_cell BK123.out 0).trans rfl
            have hcz37_1 : wc.cell? ⟨gb123, 1, none⟩ = some (.int .i64 a0_1) := (blk_cell BK123.out 1).trans rfl
            have hcz37_2 : wc.cell? ⟨gb123, 2, none⟩ = some (.slice A0_2 l0_2.length c0_2) := (blk_cell BK123.out 2).trans rfl
            have hcz37_3 : wc.cell? ⟨gb123, 3, none⟩ = some (.slice A0_3 l0_3.length c0_3) := (blk_cell BK123.out 3).trans rfl
            have hcz37_4 : wc.cell? ⟨gb123, 4, none⟩ = some (.bool a0_4) := (blk_cell BK123.out 4).trans rfl
            have hcz37_5 : wc.cell? ⟨gb123, 5, none⟩ = some (.int .i64 a0_5) := (blk_cell BK123.out 5).trans rfl
            have hfz37_0 := blk_frozen BK123.out 0
            have hfz37_1 := blk_frozen BK123.out 1
            have hfz37_2 := blk_frozen BK123.out 2
            have hfz37_3 := blk_frozen BK123.out 3
            have hfz37_4 := blk_frozen BK123.out 4
            have hfz37_5 := blk_frozen BK123.out 5
            go_wp2
            go_loopg [63] kj18 (fun kq v63 w' => ∃ (x63_3 : Int) (x125001_3 : List (List (S43))) (u125001 : Value), v63 = .int .i64 x63_3 ∧ Aside0 (result_Check.l0 kq l0_3 (l0_3.length : Int) x63_3 a0_0 a0_1 l0_2 l0_3 a0_4 a0_5 l0_2 x125001_3 = some r) ∧ Aside0 (kq ≤ kj18) ∧ Aside0 (Kd.V (Kd.slice 43 k43) 40 w' w.heap.size (fun k_ => (P0_3_ k_ ∨ w.heap.size ≤ k_) ∧ some k_ ≠ (u125001 : Value).ownBlock ∧ k_ ≠ gb123 ∧ k_ ≠ gb124) (.slice A0_3 l0_3.length c0_3) l0_3) ∧ Aside0 (Kd.V (Kd.slice 43 k43) 40 w' w.heap.size (fun k_ => (P0_3_ k_ ∨ w.heap.size ≤ k_) ∧ some k_ ≠ (u125001 : Value).ownBlock ∧ k_ ≠ gb123 ∧ k_ ≠ gb124) (.slice A0_3 l0_3.length c0_3) l0_3) ∧ Aside0 (Kd.N (Kd.slice 43 k43) 40 w' w.heap.size (fun k_ => (P0_3_ k_ ∨ w.heap.size ≤ k_) ∧ k_ ≠ gb123 ∧ k_ ≠ gb124) u125001 x125001_3) ∧ Aside0 (w'.heap[gb123]? = some (.cells #[.int .i64 a0_0, .int .i64 a0_1, (.slice A0_2 l0_2.length c0_2), (.slice A0_3 l0_3.length c0_3), .bool a0_4, .int .i64 a0_5] 28 (0, 0))) ∧ Aside0 (w'.heap[gb124]? = some (.cells #[(.slice A0_2 l0_2.length c0_2), u125001] 25 (0, 0))) ∧ Aside0 (Below w.heap.size w w'))
            case atStart => exact ⟨(0), (([] : List (List (S43)))), (.slice none 0 0), (by rfl), H', ⟨Nat.le_refl _⟩, ⟨by (with_reducible repeat (fail)); exact Kd.V_mono HO_124003.out (fun _ hk => ⟨hk.1, ⟨(by simp [Value.ownBlock]), ⟨hk.2.1, hk.2.2⟩⟩⟩)⟩, ⟨by (with_reducible repeat (fail)); exact Kd.V_mono HO_124003.out (fun _ hk => ⟨hk.1, ⟨(by simp [Value.ownBlock]), ⟨hk.2.1, hk.2.2⟩⟩⟩)⟩, ⟨by exact Kd.N_nil _ _ _ _ _⟩, ⟨by (with_reducible repeat (fail)); exact BK123.out⟩, ⟨by (with_reducible repeat (fail)); exact BK124.out⟩, ⟨by repeat ((with_reducible exact HB.out))⟩⟩
            case round =>
              clear H'
              try clear hcz37_0
              try clear hcz37_1
              try clear hcz37_2
              try clear hcz37_3
              try clear hcz37_4
              try clear hcz37_5
              try clear hfz37_0
              try clear hfz37_1
              try clear hfz37_2
              try clear hfz37_3
              try clear hfz37_4
              try clear hfz37_5
              obtain ⟨x63_3, x125001_3, u125001, rfl, HA, HK3, HO_61, HO_124003, HO_125001, BK123, BK124, HB⟩ := hrel
              cases gk with
              | zero => exact absurd HA.out (by simp [result_Check.l0])
              | succ k3 =>
                have H := HA.out
                clear HA
                simp only [result_Check.l0] at H
                by_cases c38 : x63_3 < (l0_3.length : Int)
                · rw [if_pos c38] at H
                  have c38b0 : decide (x63_3 < (l0_3.length : Int)) = true := decide_eq_true c38
                  clear c38
                  by_cases c39 : 0 ≤ x63_3
                  · rw [if_pos c39] at H
                    have c39b0 : decide (0 ≤ x63_3) = true := decide_eq_true c39
                    clear c39
                    by_cases c40 : x63_3 < (l0_3.length : Int)
                    · rw [if_pos c40] at H
                      have c40b0 : decide (x63_3 < (l0_3.length : Int)) = true := decide_eq_true c40
                      clear c40
                      obtain ⟨y127, hy127⟩ : ∃ y_ : List (List (S43)), y_ = (([rd_L3 l0_3 x63_3] : List (List (S43)))) := ⟨_, rfl⟩
                      replace H : ((table_Check.f k3 l0_2 y127).bind fun t130 => (if t130 = 0 then (result_Check.l0 k3 l0_3 (l0_3.length : Int) (wrap64 (x63_3 + 1)) a0_0 a0_1 l0_2 l0_3 a0_4 a0_5 l0_2 y127) else (some 2))) = some r := by (have H2_ := (Option.bind_some _ _).symm.trans H; rw [hy127]; with_reducible exact H2_)
                      have Ny127 := Aside0.mk hy127
                      clear hy127
                      replace H := Option.bind_eq_some_iff.mp H
                      obtain ⟨t130, A410, H⟩ := H
                      replace H : (if t130 = 0 then (result_Check.l0 k3 l0_3 (l0_3.length : Int) (wrap64 (x63_3 + 1)) a0_0 a0_1 l0_2 l0_3 a0_4 a0_5 l0_2 y127) else (some 2)) = some r := H
                      have A41 := Aside0.mk A410
                      clear A410
                      by_cases c42 : t130 = 0
                      · rw [if_pos c42] at H
                        have c42b0 : (t130 == 0) = true := beq_iff_eq.mpr c42
                        have c42b1 : (t130 != 0) = false := bne_eq_false_iff_eq.mpr c42
                        clear c42
                        have H' := Aside0.mk H
                        clear H
                        have p126 : 0 ≤ (x63_3 : Int) := of_decide_eq_true (by (with_reducible assumption))
                        have q126 : x63_3 < (l0_3.length : Int) := of_decide_eq_true (by (with_reducible assumption))
                        obtain ⟨ad126, A126_0, c126_0, e126, hx126_0, hl126_0, hi126_0⟩ := at_L3 (Kd.V_reads' HO_61.out).2.2 x63_3 p126 q126
                        cases e126
                        obtain ⟨ce126, hce126, hMe126, hcc126⟩ := Kd.V_get HO_61.out [] x63_3 p126 (by exact q126)
                        obtain ⟨ua126_0, uc126_0, rfl, ul126_0, ge126_0⟩ := Kd.FK_slice_open hMe126
                        have hv126_0 := hcc126 0 _ rfl
                        rw [Nat.add_zero, show ((Kd.slice 43 k43)).sz = 1 from rfl, Nat.mul_one] at hv126_0
                        replace hv126_0 := Option.some.inj (hv126_0.symm.trans hx126_0)
                        injection hv126_0 with hva_ hvn_ hvc_
                        rw [hva_] at ge126_0
                        rw [hvc_] at ul126_0
                        have HL126_0 := Aside0.mk (show Kd.V k43 43 _ w.heap.size _ _ (rd_L3 l0_3 x63_3) from Kd.V_mk ul126_0 ge126_0)
                        clear hva_ hvn_ hvc_ ge126_0 ul126_0
                        clear hcc126 hce126
                        have HR126_0 := Aside0.mk hi126_0
                        have HC126_0 := Aside0.mk hl126_0
                        clear hi126_0 hl126_0
                        replace p126 := eq_true p126
                        replace q126 := eq_true q126
                        go_wp2_with (first | ((with_reducible refine gate_dst (N := 68) rfl ?_); refine Kd.N_lit (Kd.slice 43 k43) _ 40 ?hg (N' := 68) ?hd (xs := ([rd_L3 l0_3 x63_3] : List (List (S43)))) (inner := [.slice A126_0 (rd_L3 l0_3 x63_3).length c126_0]) (ok := (fun k_ => (P0_3_ k_ ∨ w.heap.size ≤ k_) ∧ some k_ ≠ (u125001 : Value).ownBlock ∧ k_ ≠ gb123 ∧ k_ ≠ gb124)) (okp := (fun k_ => (P0_3_ k_ ∨ w.heap.size ≤ k_) ∧ some k_ ≠ (u125001 : Value).ownBlock ∧ k_ ≠ gb123 ∧ k_ ≠ gb124)) ?hr ?hp (fun _ hk => hk) ((show ∀ k_, wr.heap.size ≤ k_ → (fun k_ => (P0_3_ k_ ∨ w.heap.size ≤ k_) ∧ some k_ ≠ (u125001 : Value).ownBlock ∧ k_ ≠ gb123 ∧ k_ ≠ gb124) k_ from fun k_ hk => ⟨(.inr (Nat.le_trans (below_size (by repeat ((with_reducible exact HB.out)))) hk)), Kd.fresh' (Kd.N_lt (by (with_reducible repeat (fail)); exact HO_125001.out)) k_ hk, Kd.freshB (g := gb123) (o := .cells #[.int .i64 a0_0, .int .i64 a0_1, .slice A0_2 l0_2.length c0_2, .slice (some ad126) l0_3.length c0_3, .bool a0_4, .int .i64 a0_5] 28 (0, 0)) (by (with_reducible repeat (fail)); exact BK123.out) k_ hk, Kd.freshB (g := gb124) (o := .cells #[.slice A0_2 l0_2.length c0_2, u125001] 25 (0, 0)) (by (with_reducible repeat (fail)); exact BK124.out) k_ hk⟩) _ (Nat.le_refl _)) (Below.refl _ _) (Nat.le_refl _) (by simp) ?_; (case hd => rfl); (case hg => rfl); (case hr => (go_simp; done)); (case hp => exact (Reps.one (show Kd.FK (Kd.slice 43 k43) _ _ (rd_L3 l0_3 x63_3) [.slice A126_0 (rd_L3 l0_3 x63_3).length c126_0] from (Kd.FK_slice_mk (Kd.V_reads' (Kd.V_mono (ok' := (fun k_ => (P0_3_ k_ ∨ w.heap.size ≤ k_) ∧ some k_ ≠ (u125001 : Value).ownBlock ∧ k_ ≠ gb123 ∧ k_ ≠ gb124)) (HL126_0.out) (fun k_ hk => ⟨hk.1, ⟨hk.2.1, ⟨hk.2.2.1, hk.2.2.2⟩⟩⟩))).2.1 (Kd.V_F (Kd.V_mono (ok' := (fun k_ => (P0_3_ k_ ∨ w.heap.size ≤ k_) ∧ some k_ ≠ (u125001 : Value).ownBlock ∧ k_ ≠ gb123 ∧ k_ ≠ gb124)) (HL126_0.out) (fun k_ hk => ⟨hk.1, ⟨hk.2.1, ⟨hk.2.2.1, hk.2.2.2⟩⟩⟩))))) (Reps.none _ _))); intro v128 w43 ho44 hb hg_ hnew_; clear hg_ hnew_; (rw [← Ny127.out] at ho44); have n0_ := Aside0.mk (Kd.V_elder' (by (with_reducible repeat (fail)); exact HO_61.out) (Kd.N_base ho44) hb); have n1_ := Aside0.mk (Kd.V_elder' (by (with_reducible repeat (fail)); exact HO_124003.out) (Kd.N_base ho44) hb); have n2_ := Aside0.mk (Kd.N_elder' (by (with_reducible repeat (fail)); exact HO_125001.out) (Kd.N_base ho44) hb); have n3_ := Aside0.mk (Kd.V_elder' (by (with_reducible repeat (fail)); exact HL126_0.out) (Kd.N_base ho44) hb); have n4_ := Aside0.mk (Kd.N_lower ho44 (below_size (by repeat ((with_reducible exact HB.out))))); have n5_ := Aside0.mk (blk_below (g := gb123) (o := .cells #[.int .i64 a0_0, .int .i64 a0_1, .slice A0_2 l0_2.length c0_2, .slice (some ad126) l0_3.length c0_3, .bool a0_4, .int .i64 a0_5] 28 (0, 0)) (by (with_reducible repeat (fail)); exact BK123.out) hb); have n6_ := Aside0.mk (blk_below (g := gb124) (o := .cells #[.slice A0_2 l0_2.length c0_2, u125001] 25 (0, 0)) (by (with_reducible repeat (fail)); exact BK124.out) hb); have n7_ := Aside0.mk (Kd.C_below (by repeat ((with_reducible exact HR126_0.out))) hb); have n8_ := Aside0.mk (below_step (by repeat ((with_reducible exact HB.out))) hb); clear HO_61; clear HO_124003; clear HO_125001; clear HL126_0; clear BK123; clear BK124; clear HR126_0; clear HB; have HO_61 := n0_; have HO_124003 := n1_; have HO_125001 := n2_; have HL126_0 := n3_; have HO129 := n4_; have BK123 := n5_; have BK124 := n6_; have HR126_0 := n7_; have HB := n8_; clear n0_ n1_ n2_ n3_ n4_ n5_ n6_ n7_ n8_; clear hb ho44; obtain ⟨Ao45, co45, eo45⟩ := Kd.N_slice HO129.out; subst eo45; have hnb46 := NB124_123.out; have hnc46 := NB123_124.out; have hcz47_0 : w43.cell? ⟨gb124, 0, none⟩ = some (.slice A0_2 l0_2.length c0_2) := (blk_cell BK124.out 0).trans rfl; have hcz47_1 : w43.cell? ⟨gb124, 1, none⟩ = some (u125001) := (blk_cell BK124.out 1).trans rfl; have hfz47_0 := blk_frozen BK124.out 0; have hfz47_1 := blk_frozen BK124.out 1) | ((with_reducible refine gate_callee (f := 26) rfl ?_); refine goesL_ (some 71) rfl rfl Tryd.func26 (by kernel_rfl) rfl #[.agg #[.slice A0_2 l0_2.length c0_2, .slice Ao45 y127.length co45]] rfl (by (try simp only [List.map_toArray, List.map_cons, List.map_nil]); rfl) ?_; (with_reducible refine (table_Check.calls k3 _ _ l0_2 _ _ y127 t130 _ ?side1 ?side2 ?side3 ?side4 A41.out).mono ?_); (case side1 => exact Kd.C_below HR0_2.out (by repeat ((with_reducible first | exact HB.out | refine below_set ?_ GE124.out)))); (case side2 => exact HC0_2.out); (case side3 => refine (Kd.N_reads' (e := 40) (base := w.heap.size) (ok := fun k_ => ((P0_3_ k_ ∨ (w.heap.size ≤ k_)) ∧ (some k_ ≠ (u125001 : Value).ownBlock ∧ (k_ ≠ gb123 ∧ k_ ≠ gb124)))) (n := y127.length) (c := co45) ?_).2.2; exact (by (with_reducible repeat (fail)); exact (Kd.N_mono (Kd.N_far (p := ⟨gb124, 1, none⟩) (Kd.N_mono HO129.out (fun k_ hk => (⟨hk, hk.2.2.2⟩ : _ ∧ k_ ≠ gb124))) (fun _ hk => hk.2) (.slice Ao45 y127.length co45)) (fun _ h_ => h_.1)))); (case side4 => exact (Kd.N_reads' HO129.out).2.1); rintro e w48 ⟨rfl, hb⟩; refine ⟨_, rfl, ?_⟩; have n0_ := Aside0.mk (Kd.V_below (by (with_reducible repeat (fail)); exact (Kd.V_mono (Kd.V_far (p := ⟨gb124, 1, none⟩) (Kd.V_mono HO_61.out (fun k_ hk => (⟨hk, hk.1.2.2.2⟩ : _ ∧ k_ ≠ gb124))) (fun _ hk => hk.2) (.slice Ao45 y127.length co45)) (fun _ h_ => h_.1))) hb); have n1_ := Aside0.mk (Kd.V_below (by (with_reducible repeat (fail)); exact (Kd.V_mono (Kd.V_far (p := ⟨gb124, 1, none⟩) (Kd.V_mono HO_124003.out (fun k_ hk => (⟨hk, hk.1.2.2.2⟩ : _ ∧ k_ ≠ gb124))) (fun _ hk => hk.2) (.slice Ao45 y127.length co45)) (fun _ h_ => h_.1))) hb); have n2_ := Aside0.mk (Kd.N_below (by (with_reducible repeat (fail)); exact (Kd.N_mono (Kd.N_far (p := ⟨gb124, 1, none⟩) (Kd.N_mono HO_125001.out (fun k_ hk => (⟨hk, hk.1.2.2⟩ : _ ∧ k_ ≠ gb124))) (fun _ hk => hk.2) (.slice Ao45 y127.length co45)) (fun _ h_ => h_.1))) hb); have n3_ := Aside0.mk (Kd.V_below (by (with_reducible repeat (fail)); exact (Kd.V_mono (Kd.V_far (p := ⟨gb124, 1, none⟩) (Kd.V_mono HL126_0.out (fun k_ hk => (⟨hk, hk.1.2.2.2⟩ : _ ∧ k_ ≠ gb124))) (fun _ hk => hk.2) (.slice Ao45 y127.length co45)) (fun _ h_ => h_.1))) hb); have n4_ := Aside0.mk (Kd.N_below (by (with_reducible repeat (fail)); exact (Kd.N_mono (Kd.N_far (p := ⟨gb124, 1, none⟩) (Kd.N_mono HO129.out (fun k_ hk => (⟨hk, hk.2.2.2⟩ : _ ∧ k_ ≠ gb124))) (fun _ hk => hk.2) (.slice Ao45 y127.length co45)) (fun _ h_ => h_.1))) hb); have n5_ := Aside0.mk (blk_below (g := gb123) (o := .cells #[.int .i64 a0_0, .int .i64 a0_1, .slice A0_2 l0_2.length c0_2, .slice (some ad126) l0_3.length c0_3, .bool a0_4, .int .i64 a0_5] 28 (0, 0)) (by (with_reducible repeat (fail)); refine blk_far ?_ NB123_124.out _; (with_reducible repeat (fail)); exact BK123.out) hb); have n6_ := Aside0.mk (blk_below (g := gb124) (o := .cells #[.slice A0_2 l0_2.length c0_2, .slice Ao45 y127.length co45] 25 (0, 0)) (by (with_reducible repeat (fail)); refine blk_put (cs := #[.slice A0_2 l0_2.length c0_2, u125001]) ?_ 1 _ rfl; (with_reducible repeat (fail)); exact BK124.out) hb); have n7_ := Aside0.mk (Kd.C_below ((Kd.V_reads' (by (with_reducible repeat (fail)); exact (Kd.V_mono (Kd.V_far (p := ⟨gb124, 1, none⟩) (Kd.V_mono HL126_0.out (fun k_ hk => (⟨hk, hk.1.2.2.2⟩ : _ ∧ k_ ≠ gb124))) (fun _ hk => hk.2) (.slice Ao45 y127.length co45)) (fun _ h_ => h_.1)))).2.2) hb); have n8_ := Aside0.mk (below_step (by repeat ((with_reducible first | exact HB.out | refine below_set ?_ GE124.out))) hb); clear HO_61; clear HO_124003; clear HO_125001; clear HL126_0; clear HO129; clear BK123; clear BK124; clear HR126_0; clear HB; have HO_61 := n0_; have HO_124003 := n1_; have HO_125001 := n2_; have HL126_0 := n3_; have HO129 := n4_; have BK123 := n5_; have BK124 := n6_; have HR126_0 := n7_; have HB := n8_; clear n0_ n1_ n2_ n3_ n4_ n5_ n6_ n7_ n8_; (try clear hb)))
                        go_roundg k3
                        case measure => have := HJ1.out; have := HJ18.out; have := HK3.out; omega
                        case rel => exact ⟨(wrap64 (x63_3 + 1)), (y127), (.slice Ao45 y127.length co45), (by rfl), H', ⟨by have := HJ1.out; have := HJ18.out; have := HK3.out; omega⟩, ⟨by (with_reducible repeat (fail)); exact Kd.V_mono HO_61.out (fun _ hk => ⟨hk.1.1, ⟨hk.2, ⟨hk.1.2.2.1, hk.1.2.2.2⟩⟩⟩)⟩, ⟨by (with_reducible repeat (fail)); exact Kd.V_mono HO_124003.out (fun _ hk => ⟨hk.1.1, ⟨hk.2, ⟨hk.1.2.2.1, hk.1.2.2.2⟩⟩⟩)⟩, ⟨by (with_reducible repeat (fail)); exact Kd.N_mono HO129.out (fun _ hk => ⟨hk.1, ⟨hk.2.2.1, hk.2.2.2⟩⟩)⟩, ⟨by (with_reducible repeat (fail)); exact BK123.out⟩, ⟨by (with_reducible repeat (fail)); exact BK124.out⟩, ⟨by repeat ((with_reducible exact HB.out))⟩⟩
                      rw [if_neg c42] at H
                      have c42b0 : (t130 == 0) = false := beq_eq_false_iff_ne.mpr c42
                      have c42b1 : (t130 != 0) = true := bne_iff_ne.mpr c42
                      obtain rfl := Option.some.inj H
                      have p126 : 0 ≤ (x63_3 : Int) := of_decide_eq_true (by (with_reducible assumption))
                      have q126 : x63_3 < (l0_3.length : Int) := of_decide_eq_true (by (with_reducible assumption))
                      obtain ⟨ad126, A126_0, c126_0, e126, hx126_0, hl126_0, hi126_0⟩ := at_L3 (Kd.V_reads' HO_61.out).2.2 x63_3 p126 q126
                      cases e126
                      obtain ⟨ce126, hce126, hMe126, hcc126⟩ := Kd.V_get HO_61.out [] x63_3 p126 (by exact q126)
                      obtain ⟨ua126_0, uc126_0, rfl, ul126_0, ge126_0⟩ := Kd.FK_slice_open hMe126
                      have hv126_0 := hcc126 0 _ rfl
                      rw [Nat.add_zero, show ((Kd.slice 43 k43)).sz = 1 from rfl, Nat.mul_one] at hv126_0
                      replace hv126_0 := Option.some.inj (hv126_0.symm.trans hx126_0)
                      injection hv126_0 with hva_ hvn_ hvc_
                      rw [hva_] at ge126_0
                      rw [hvc_] at ul126_0
                      have HL126_0 := Aside0.mk (show Kd.V k43 43 _ w.heap.size _ _ (rd_L3 l0_3 x63_3) from Kd.V_mk ul126_0 ge126_0)
                      clear hva_ hvn_ hvc_ ge126_0 ul126_0
                      clear hcc126 hce126
                      have HR126_0 := Aside0.mk hi126_0
                      have HC126_0 := Aside0.mk hl126_0
                      clear hi126_0 hl126_0
                      replace p126 := eq_true p126
                      replace q126 := eq_true q126
                      go_wp2_with (first | ((with_reducible refine gate_dst (N := 68) rfl ?_); refine Kd.N_lit (Kd.slice 43 k43) _ 40 ?hg (N' := 68) ?hd (xs := ([rd_L3 l0_3 x63_3] : List (List (S43)))) (inner := [.slice A126_0 (rd_L3 l0_3 x63_3).length c126_0]) (ok := (fun k_ => (P0_3_ k_ ∨ w.heap.size ≤ k_) ∧ some k_ ≠ (u125001 : Value).ownBlock ∧ k_ ≠ gb123 ∧ k_ ≠ gb124)) (okp := (fun k_ => (P0_3_ k_ ∨ w.heap.size ≤ k_) ∧ some k_ ≠ (u125001 : Value).ownBlock ∧ k_ ≠ gb123 ∧ k_ ≠ gb124)) ?hr ?hp (fun _ hk => hk) ((show ∀ k_, wr.heap.size ≤ k_ → (fun k_ => (P0_3_ k_ ∨ w.heap.size ≤ k_) ∧ some k_ ≠ (u125001 : Value).ownBlock ∧ k_ ≠ gb123 ∧ k_ ≠ gb124) k_ from fun k_ hk => ⟨(.inr (Nat.le_trans (below_size (by repeat ((with_reducible exact HB.out)))) hk)), Kd.fresh' (Kd.N_lt (by (with_reducible repeat (fail)); exact HO_125001.out)) k_ hk, Kd.freshB (g := gb123) (o := .cells #[.int .i64 a0_0, .int .i64 a0_1, .slice A0_2 l0_2.length c0_2, .slice (some ad126) l0_3.length c0_3, .bool a0_4, .int .i64 a0_5] 28 (0, 0)) (by (with_reducible repeat (fail)); exact BK123.out) k_ hk, Kd.freshB (g := gb124) (o := .cells #[.slice A0_2 l0_2.length c0_2, u125001] 25 (0, 0)) (by (with_reducible repeat (fail)); exact BK124.out) k_ hk⟩) _ (Nat.le_refl _)) (Below.refl _ _) (Nat.le_refl _) (by simp) ?_; (case hd => rfl); (case hg => rfl); (case hr => (go_simp; done)); (case hp => exact (Reps.one (show Kd.FK (Kd.slice 43 k43) _ _ (rd_L3 l0_3 x63_3) [.slice A126_0 (rd_L3 l0_3 x63_3).length c126_0] from (Kd.FK_slice_mk (Kd.V_reads' (Kd.V_mono (ok' := (fun k_ => (P0_3_ k_ ∨ w.heap.size ≤ k_) ∧ some k_ ≠ (u125001 : Value).ownBlock ∧ k_ ≠ gb123 ∧ k_ ≠ gb124)) (HL126_0.out) (fun k_ hk => ⟨hk.1, ⟨hk.2.1, ⟨hk.2.2.1, hk.2.2.2⟩⟩⟩))).2.1 (Kd.V_F (Kd.V_mono (ok' := (fun k_ => (P0_3_ k_ ∨ w.heap.size ≤ k_) ∧ some k_ ≠ (u125001 : Value).ownBlock ∧ k_ ≠ gb123 ∧ k_ ≠ gb124)) (HL126_0.out) (fun k_ hk => ⟨hk.1, ⟨hk.2.1, ⟨hk.2.2.1, hk.2.2.2⟩⟩⟩))))) (Reps.none _ _))); intro v128 w49 ho50 hb hg_ hnew_; clear hg_ hnew_; (rw [← Ny127.out] at ho50); have n0_ := Aside0.mk (Kd.V_elder' (by (with_reducible repeat (fail)); exact HO_61.out) (Kd.N_base ho50) hb); have n1_ := Aside0.mk (Kd.V_elder' (by (with_reducible repeat (fail)); exact HO_124003.out) (Kd.N_base ho50) hb); have n2_ := Aside0.mk (Kd.N_elder' (by (with_reducible repeat (fail)); exact HO_125001.out) (Kd.N_base ho50) hb); have n3_ := Aside0.mk (Kd.V_elder' (by (with_reducible repeat (fail)); exact HL126_0.out) (Kd.N_base ho50) hb); have n4_ := Aside0.mk (Kd.N_lower ho50 (below_size (by repeat ((with_reducible exact HB.out))))); have n5_ := Aside0.mk (blk_below (g := gb123) (o := .cells #[.int .i64 a0_0, .int .i64 a0_1, .slice A0_2 l0_2.length c0_2, .slice (some ad126) l0_3.length c0_3, .bool a0_4, .int .i64 a0_5] 28 (0, 0)) (by (with_reducible repeat (fail)); exact BK123.out) hb); have n6_ := Aside0.mk (blk_below (g := gb124) (o := .cells #[.slice A0_2 l0_2.length c0_2, u125001] 25 (0, 0)) (by (with_reducible repeat (fail)); exact BK124.out) hb); have n7_ := Aside0.mk (Kd.C_below (by repeat ((with_reducible exact HR126_0.out))) hb); have n8_ := Aside0.mk (below_step (by repeat ((with_reducible exact HB.out))) hb); clear HO_61; clear HO_124003; clear HO_125001; clear HL126_0; clear BK123; clear BK124; clear HR126_0; clear HB; have HO_61 := n0_; have HO_124003 := n1_; have HO_125001 := n2_; have HL126_0 := n3_; have HO129 := n4_; have BK123 := n5_; have BK124 := n6_; have HR126_0 := n7_; have HB := n8_; clear n0_ n1_ n2_ n3_ n4_ n5_ n6_ n7_ n8_; clear hb ho50; obtain ⟨Ao51, co51, eo51⟩ := Kd.N_slice HO129.out; subst eo51; have hnb52 := NB124_123.out; have hnc52 := NB123_124.out; have hcz53_0 : w49.cell? ⟨gb124, 0, none⟩ = some (.slice A0_2 l0_2.length c0_2) := (blk_cell BK124.out 0).trans rfl; have hcz53_1 : w49.cell? ⟨gb124, 1, none⟩ = some (u125001) := (blk_cell BK124.out 1).trans rfl; have hfz53_0 := blk_frozen BK124.out 0; have hfz53_1 := blk_frozen BK124.out 1) | ((with_reducible refine gate_callee (f := 26) rfl ?_); refine goesL_ (some 71) rfl rfl Tryd.func26 (by kernel_rfl) rfl #[.agg #[.slice A0_2 l0_2.length c0_2, .slice Ao51 y127.length co51]] rfl (by (try simp only [List.map_toArray, List.map_cons, List.map_nil]); rfl) ?_; (with_reducible refine (table_Check.calls k3 _ _ l0_2 _ _ y127 t130 _ ?side1 ?side2 ?side3 ?side4 A41.out).mono ?_); (case side1 => exact Kd.C_below HR0_2.out (by repeat ((with_reducible first | exact HB.out | refine below_set ?_ GE124.out)))); (case side2 => exact HC0_2.out); (case side3 => refine (Kd.N_reads' (e := 40) (base := w.heap.size) (ok := fun k_ => ((P0_3_ k_ ∨ (w.heap.size ≤ k_)) ∧ (some k_ ≠ (u125001 : Value).ownBlock ∧ (k_ ≠ gb123 ∧ k_ ≠ gb124)))) (n := y127.length) (c := co51) ?_).2.2; exact (by (with_reducible repeat (fail)); exact (Kd.N_mono (Kd.N_far (p := ⟨gb124, 1, none⟩) (Kd.N_mono HO129.out (fun k_ hk => (⟨hk, hk.2.2.2⟩ : _ ∧ k_ ≠ gb124))) (fun _ hk => hk.2) (.slice Ao51 y127.length co51)) (fun _ h_ => h_.1)))); (case side4 => exact (Kd.N_reads' HO129.out).2.1); rintro e w54 ⟨rfl, hb⟩; refine ⟨_, rfl, ?_⟩; have n0_ := Aside0.mk (Kd.V_below (by (with_reducible repeat (fail)); exact (Kd.V_mono (Kd.V_far (p := ⟨gb124, 1, none⟩) (Kd.V_mono HO_61.out (fun k_ hk => (⟨hk, hk.1.2.2.2⟩ : _ ∧ k_ ≠ gb124))) (fun _ hk => hk.2) (.slice Ao51 y127.length co51)) (fun _ h_ => h_.1))) hb); have n1_ := Aside0.mk (Kd.V_below (by (with_reducible repeat (fail)); exact (Kd.V_mono (Kd.V_far (p := ⟨gb124, 1, none⟩) (Kd.V_mono HO_124003.out (fun k_ hk => (⟨hk, hk.1.2.2.2⟩ : _ ∧ k_ ≠ gb124))) (fun _ hk => hk.2) (.slice Ao51 y127.length co51)) (fun _ h_ => h_.1))) hb); have n2_ := Aside0.mk (Kd.N_below (by (with_reducible repeat (fail)); exact (Kd.N_mono (Kd.N_far (p := ⟨gb124, 1, none⟩) (Kd.N_mono HO_125001.out (fun k_ hk => (⟨hk, hk.1.2.2⟩ : _ ∧ k_ ≠ gb124))) (fun _ hk => hk.2) (.slice Ao51 y127.length co51)) (fun _ h_ => h_.1))) hb); have n3_ := Aside0.mk (Kd.V_below (by (with_reducible repeat (fail)); exact (Kd.V_mono (Kd.V_far (p := ⟨gb124, 1, none⟩) (Kd.V_mono HL126_0.out (fun k_ hk => (⟨hk, hk.1.2.2.2⟩ : _ ∧ k_ ≠ gb124))) (fun _ hk => hk.2) (.slice Ao51 y127.length co51)) (fun _ h_ => h_.1))) hb); have n4_ := Aside0.mk (Kd.N_below (by (with_reducible repeat (fail)); exact (Kd.N_mono (Kd.N_far (p := ⟨gb124, 1, none⟩) (Kd.N_mono HO129.out (fun k_ hk => (⟨hk, hk.2.2.2⟩ : _ ∧ k_ ≠ gb124))) (fun _ hk => hk.2) (.slice Ao51 y127.length co51)) (fun _ h_ => h_.1))) hb); have n5_ := Aside0.mk (blk_below (g := gb123) (o := .cells #[.int .i64 a0_0, .int .i64 a0_1, .slice A0_2 l0_2.length c0_2, .slice (some ad126) l0_3.length c0_3, .bool a0_4, .int .i64 a0_5] 28 (0, 0)) (by (with_reducible repeat (fail)); refine blk_far ?_ NB123_124.out _; (with_reducible repeat (fail)); exact BK123.out) hb); have n6_ := Aside0.mk (blk_below (g := gb124) (o := .cells #[.slice A0_2 l0_2.length c0_2, .slice Ao51 y127.length co51] 25 (0, 0)) (by (with_reducible repeat (fail)); refine blk_put (cs := #[.slice A0_2 l0_2.length c0_2, u125001]) ?_ 1 _ rfl; (with_reducible repeat (fail)); exact BK124.out) hb); have n7_ := Aside0.mk (Kd.C_below ((Kd.V_reads' (by (with_reducible repeat (fail)); exact (Kd.V_mono (Kd.V_far (p := ⟨gb124, 1, none⟩) (Kd.V_mono HL126_0.out (fun k_ hk => (⟨hk, hk.1.2.2.2⟩ : _ ∧ k_ ≠ gb124))) (fun _ hk => hk.2) (.slice Ao51 y127.length co51)) (fun _ h_ => h_.1)))).2.2) hb); have n8_ := Aside0.mk (below_step (by repeat ((with_reducible first | exact HB.out | refine below_set ?_ GE124.out))) hb); clear HO_61; clear HO_124003; clear HO_125001; clear HL126_0; clear HO129; clear BK123; clear BK124; clear HR126_0; clear HB; have HO_61 := n0_; have HO_124003 := n1_; have HO_125001 := n2_; have HL126_0 := n3_; have HO129 := n4_; have BK123 := n5_; have BK124 := n6_; have HR126_0 := n7_; have HB := n8_; clear n0_ n1_ n2_ n3_ n4_ n5_ n6_ n7_ n8_; (try clear hb)))
                      go_ret
                      exact ⟨by rfl, by repeat ((with_reducible exact HB.out))⟩
                    rw [if_neg c40] at H
                    exact absurd H (by simp)
                  rw [if_neg c39] at H
                  exact absurd H (by simp)
                rw [if_neg c38] at H
                have c38b0 : decide (x63_3 < (l0_3.length : Int)) = false := decide_eq_false c38
                clear c38
                by_cases c55 : (l0_3.length : Int) > 1024
                · rw [if_pos c55] at H
                  have c55b0 : decide (1024 < (l0_3.length : Int)) = true := decide_eq_true c55
                  have c55b1 : decide (1024 < l0_3.length) = true := decide_eq_true (by omega)
                  clear c55
                  obtain rfl := Option.some.inj H
                  have hnb56 := NB123_124.out
                  have hnc56 := NB124_123.out
                  have hcz57_0 : wr.cell? ⟨gb123, 0, none⟩ = some (.int .i64 a0_0) := (blk_cell BK123.out 0).trans rfl
                  have hcz57_1 : wr.cell? ⟨gb123, 1, none⟩ = some (.int .i64 a0_1) := (blk_cell BK123.out 1).trans rfl
                  have hcz57_2 : wr.cell? ⟨gb123, 2, none⟩ = some (.slice A0_2 l0_2.length c0_2) := (blk_cell BK123.out 2).trans rfl
                  have hcz57_3 : wr.cell? ⟨gb123, 3, none⟩ = some (.slice A0_3 l0_3.length c0_3) := (blk_cell BK123.out 3).trans rfl
                  have hcz57_4 : wr.cell? ⟨gb123, 4, none⟩ = some (.bool a0_4) := (blk_cell BK123.out 4).trans rfl
                  have hcz57_5 : wr.cell? ⟨gb123, 5, none⟩ = some (.int .i64 a0_5) := (blk_cell BK123.out 5).trans rfl
                  have hfz57_0 := blk_frozen BK123.out 0
                  have hfz57_1 := blk_frozen BK123.out 1
                  have hfz57_2 := blk_frozen BK123.out 2
                  have hfz57_3 := blk_frozen BK123.out 3
                  have hfz57_4 := blk_frozen BK123.out 4
                  have hfz57_5 := blk_frozen BK123.out 5
                  go_wp2
                  go_ret
                  exact ⟨by rfl, by repeat ((with_reducible exact HB.out))⟩
                rw [if_neg c55] at H
                have c55b0 : decide (1024 < (l0_3.length : Int)) = false := decide_eq_false c55
                have c55b1 : decide (1024 < l0_3.length) = false := decide_eq_false (by omega)
                clear c55
                obtain rfl := Option.some.inj H
                have hnb58 := NB123_124.out
                have hnc58 := NB124_123.out
                have hcz59_0 : wr.cell? ⟨gb123, 0, none⟩ = some (.int .i64 a0_0) := (blk_cell BK123.out 0).trans rfl
                have hcz59_1 : wr.cell? ⟨gb123, 1, none⟩ = some (.int .i64 a0_1) := (blk_cell BK123.out 1).trans rfl
                have hcz59_2 : wr.cell? ⟨gb123, 2, none⟩ = some (.slice A0_2 l0_2.length c0_2) := (blk_cell BK123.out 2).trans rfl
                have hcz59_3 : wr.cell? ⟨gb123, 3, none⟩ = some (.slice A0_3 l0_3.length c0_3) := (blk_cell BK123.out 3).trans rfl
                have hcz59_4 : wr.cell? ⟨gb123, 4, none⟩ = some (.bool a0_4) := (blk_cell BK123.out 4).trans rfl
                have hcz59_5 : wr.cell? ⟨gb123, 5, none⟩ = some (.int .i64 a0_5) := (blk_cell BK123.out 5).trans rfl
                have hfz59_0 := blk_frozen BK123.out 0
                have hfz59_1 := blk_frozen BK123.out 1
                have hfz59_2 := blk_frozen BK123.out 2
                have hfz59_3 := blk_frozen BK123.out 3
                have hfz59_4 := blk_frozen BK123.out 4
                have hfz59_5 := blk_frozen BK123.out 5
                go_wp2
                go_ret
                exact ⟨by rfl, by repeat ((with_reducible exact HB.out))⟩
      rw [if_neg c18] at H
      have c18b0 : (a0_1 == 1) = false := beq_eq_false_iff_ne.mpr c18
      have c18b1 : (a0_1 != 1) = true := bne_iff_ne.mpr c18
      by_cases c60 : a0_1 = 2
      · rw [if_pos c60] at H
        have c60b0 : (a0_1 == 2) = true := beq_iff_eq.mpr c60
        have c60b1 : (a0_1 != 2) = false := bne_eq_false_iff_eq.mpr c60
        clear c60
        replace H := Option.bind_eq_some_iff.mp H
        obtain ⟨t131, A610, H⟩ := H
        replace H : (if t131 = true then (if a0_5 = 0 then (some 0) else (some 2)) else (some 2)) = some r := H
        have A61 := Aside0.mk A610
        clear A610
        by_cases c62 : t131 = true
        · subst c62
          have H1 : (if a0_5 = 0 then (some 0) else (some 2)) = some r := by rw [if_pos rfl] at H; exact H
          clear H
          have H := H1
          clear H1
          by_cases c63 : a0_5 = 0
          · rw [if_pos c63] at H
            have c63b0 : (a0_5 == 0) = true := beq_iff_eq.mpr c63
            have c63b1 : (a0_5 != 0) = false := bne_eq_false_iff_eq.mpr c63
            clear c63
            obtain rfl := Option.some.inj H
            have hcz64_0 : wc.cell? ⟨gb123, 0, none⟩ = some (.int .i64 a0_0) := (blk_cell BK123.out 0).trans rfl
            have hcz64_1 : wc.cell? ⟨gb123, 1, none⟩ = some (.int .i64 a0_1) := (blk_cell BK123.out 1).trans rfl
            have hcz64_2 : wc.cell? ⟨gb123, 2, none⟩ = some (.slice A0_2 l0_2.length c0_2) := (blk_cell BK123.out 2).trans rfl
            have hcz64_3 : wc.cell? ⟨gb123, 3, none⟩ = some (.slice A0_3 l0_3.length c0_3) := (blk_cell BK123.out 3).trans rfl
            have hcz64_4 : wc.cell? ⟨gb123, 4, none⟩ = some (.bool a0_4) := (blk_cell BK123.out 4).trans rfl
            have hcz64_5 : wc.cell? ⟨gb123, 5, none⟩ = some (.int .i64 a0_5) := (blk_cell BK123.out 5).trans rfl
            have hfz64_0 := blk_frozen BK123.out 0
            have hfz64_1 := blk_frozen BK123.out 1
            have hfz64_2 := blk_frozen BK123.out 2
            have hfz64_3 := blk_frozen BK123.out 3
            have hfz64_4 := blk_frozen BK123.out 4
            have hfz64_5 := blk_frozen BK123.out 5
            go_wp2_with (((with_reducible refine gate_callee (f := 27) rfl ?_); refine goesL_ (some 83) rfl rfl Tryd.func27 (by kernel_rfl) rfl #[.agg #[.slice A0_2 l0_2.length c0_2, .slice A0_3 l0_3.length c0_3]] rfl (by (try simp only [List.map_toArray, List.map_cons, List.map_nil]); rfl) ?_; (with_reducible refine (result_empty.calls _ _ l0_2 _ _ l0_3 true _ ?side1 ?side2 ?side3 ?side4 A61.out).mono ?_); (case side1 => repeat (exact (Kd.C_below HR0_2.out HB.out))); (case side2 => exact HC0_2.out); (case side3 => repeat (exact (Kd.V_reads' HO_124003.out).2.2)); (case side4 => exact (Kd.V_reads' HO_124003.out).2.1); rintro e w65 ⟨rfl, hb⟩; refine ⟨_, rfl, ?_⟩; have n0_ := Aside0.mk (Kd.V_below (by (with_reducible repeat (fail)); exact HO_124003.out) hb); have n1_ := Aside0.mk (blk_below (g := gb123) (o := .cells #[.int .i64 a0_0, .int .i64 a0_1, .slice A0_2 l0_2.length c0_2, .slice A0_3 l0_3.length c0_3, .bool a0_4, .int .i64 a0_5] 28 (0, 0)) (by (with_reducible repeat (fail)); exact BK123.out) hb); have n2_ := Aside0.mk (below_step (by repeat ((with_reducible exact HB.out))) hb); clear HO_124003; clear BK123; clear HB; have HO_124003 := n0_; have BK123 := n1_; have HB := n2_; clear n0_ n1_ n2_; (try clear hb); have hcz66_0 : w65.cell? ⟨gb123, 0, none⟩ = some (.int .i64 a0_0) := (blk_cell BK123.out 0).trans rfl; have hcz66_1 : w65.cell? ⟨gb123, 1, none⟩ = some (.int .i64 a0_1) := (blk_cell BK123.out 1).trans rfl; have hcz66_2 : w65.cell? ⟨gb123, 2, none⟩ = some (.slice A0_2 l0_2.length c0_2) := (blk_cell BK123.out 2).trans rfl; have hcz66_3 : w65.cell? ⟨gb123, 3, none⟩ = some (.slice A0_3 l0_3.length c0_3) := (blk_cell BK123.out 3).trans rfl; have hcz66_4 : w65.cell? ⟨gb123, 4, none⟩ = some (.bool a0_4) := (blk_cell BK123.out 4).trans rfl; have hcz66_5 : w65.cell? ⟨gb123, 5, none⟩ = some (.int .i64 a0_5) := (blk_cell BK123.out 5).trans rfl; have hfz66_0 := blk_frozen BK123.out 0; have hfz66_1 := blk_frozen BK123.out 1; have hfz66_2 := blk_frozen BK123.out 2; have hfz66_3 := blk_frozen BK123.out 3; have hfz66_4 := blk_frozen BK123.out 4; have hfz66_5 := blk_frozen BK123.out 5))
            go_ret
            exact ⟨by rfl, by repeat ((with_reducible exact HB.out))⟩
          rw [if_neg c63] at H
          have c63b0 : (a0_5 == 0) = false := beq_eq_false_iff_ne.mpr c63
          have c63b1 : (a0_5 != 0) = true := bne_iff_ne.mpr c63
          obtain rfl := Option.some.inj H
          have hcz67_0 : wc.cell? ⟨gb123, 0, none⟩ = some (.int .i64 a0_0) := (blk_cell BK123.out 0).trans rfl
          have hcz67_1 : wc.cell? ⟨gb123, 1, none⟩ = some (.int .i64 a0_1) := (blk_cell BK123.out 1).trans rfl
          have hcz67_2 : wc.cell? ⟨gb123, 2, none⟩ = some (.slice A0_2 l0_2.length c0_2) := (blk_cell BK123.out 2).trans rfl
          have hcz67_3 : wc.cell? ⟨gb123, 3, none⟩ = some (.slice A0_3 l0_3.length c0_3) := (blk_cell BK123.out 3).trans rfl
          have hcz67_4 : wc.cell? ⟨gb123, 4, none⟩ = some (.bool a0_4) := (blk_cell BK123.out 4).trans rfl
          have hcz67_5 : wc.cell? ⟨gb123, 5, none⟩ = some (.int .i64 a0_5) := (blk_cell BK123.out 5).trans rfl
          have hfz67_0 := blk_frozen BK123.out 0
          have hfz67_1 := blk_frozen BK123.out 1
          have hfz67_2 := blk_frozen BK123.out 2
          have hfz67_3 := blk_frozen BK123.out 3
          have hfz67_4 := blk_frozen BK123.out 4
          have hfz67_5 := blk_frozen BK123.out 5
          go_wp2_with (((with_reducible refine gate_callee (f := 27) rfl ?_); refine goesL_ (some 83) rfl rfl Tryd.func27 (by kernel_rfl) rfl #[.agg #[.slice A0_2 l0_2.length c0_2, .slice A0_3 l0_3.length c0_3]] rfl (by (try simp only [List.map_toArray, List.map_cons, List.map_nil]); rfl) ?_; (with_reducible refine (result_empty.calls _ _ l0_2 _ _ l0_3 true _ ?side1 ?side2 ?side3 ?side4 A61.out).mono ?_); (case side1 => repeat (exact (Kd.C_below HR0_2.out HB.out))); (case side2 => exact HC0_2.out); (case side3 => repeat (exact (Kd.V_reads' HO_124003.out).2.2)); (case side4 => exact (Kd.V_reads' HO_124003.out).2.1); rintro e w68 ⟨rfl, hb⟩; refine ⟨_, rfl, ?_⟩; have n0_ := Aside0.mk (Kd.V_below (by (with_reducible repeat (fail)); exact HO_124003.out) hb); have n1_ := Aside0.mk (blk_below (g := gb123) (o := .cells #[.int .i64 a0_0, .int .i64 a0_1, .slice A0_2 l0_2.length c0_2, .slice A0_3 l0_3.length c0_3, .bool a0_4, .int .i64 a0_5] 28 (0, 0)) (by (with_reducible repeat (fail)); exact BK123.out) hb); have n2_ := Aside0.mk (below_step (by repeat ((with_reducible exact HB.out))) hb); clear HO_124003; clear BK123; clear HB; have HO_124003 := n0_; have BK123 := n1_; have HB := n2_; clear n0_ n1_ n2_; (try clear hb); have hcz69_0 : w68.cell? ⟨gb123, 0, none⟩ = some (.int .i64 a0_0) := (blk_cell BK123.out 0).trans rfl; have hcz69_1 : w68.cell? ⟨gb123, 1, none⟩ = some (.int .i64 a0_1) := (blk_cell BK123.out 1).trans rfl; have hcz69_2 : w68.cell? ⟨gb123, 2, none⟩ = some (.slice A0_2 l0_2.length c0_2) := (blk_cell BK123.out 2).trans rfl; have hcz69_3 : w68.cell? ⟨gb123, 3, none⟩ = some (.slice A0_3 l0_3.length c0_3) := (blk_cell BK123.out 3).trans rfl; have hcz69_4 : w68.cell? ⟨gb123, 4, none⟩ = some (.bool a0_4) := (blk_cell BK123.out 4).trans rfl; have hcz69_5 : w68.cell? ⟨gb123, 5, none⟩ = some (.int .i64 a0_5) := (blk_cell BK123.out 5).trans rfl; have hfz69_0 := blk_frozen BK123.out 0; have hfz69_1 := blk_frozen BK123.out 1; have hfz69_2 := blk_frozen BK123.out 2; have hfz69_3 := blk_frozen BK123.out 3; have hfz69_4 := blk_frozen BK123.out 4; have hfz69_5 := blk_frozen BK123.out 5))
          go_ret
          exact ⟨by rfl, by repeat ((with_reducible exact HB.out))⟩
        replace c62 := Bool.eq_false_iff.mpr c62
        subst c62
        have H1 : (some 2) = some r := by rw [if_neg (show ¬ (false = true) by decide)] at H; exact H
        clear H
        have H := H1
        clear H1
        obtain rfl := Option.some.inj H
        have hcz70_0 : wc.cell? ⟨gb123, 0, none⟩ = some (.int .i64 a0_0) := (blk_cell BK123.out 0).trans rfl
        have hcz70_1 : wc.cell? ⟨gb123, 1, none⟩ = some (.int .i64 a0_1) := (blk_cell BK123.out 1).trans rfl
        have hcz70_2 : wc.cell? ⟨gb123, 2, none⟩ = some (.slice A0_2 l0_2.length c0_2) := (blk_cell BK123.out 2).trans rfl
        have hcz70_3 : wc.cell? ⟨gb123, 3, none⟩ = some (.slice A0_3 l0_3.length c0_3) := (blk_cell BK123.out 3).trans rfl
        have hcz70_4 : wc.cell? ⟨gb123, 4, none⟩ = some (.bool a0_4) := (blk_cell BK123.out 4).trans rfl
        have hcz70_5 : wc.cell? ⟨gb123, 5, none⟩ = some (.int .i64 a0_5) := (blk_cell BK123.out 5).trans rfl
        have hfz70_0 := blk_frozen BK123.out 0
        have hfz70_1 := blk_frozen BK123.out 1
        have hfz70_2 := blk_frozen BK123.out 2
        have hfz70_3 := blk_frozen BK123.out 3
        have hfz70_4 := blk_frozen BK123.out 4
        have hfz70_5 := blk_frozen BK123.out 5
        go_wp2_with (((with_reducible refine gate_callee (f := 27) rfl ?_); refine goesL_ (some 83) rfl rfl Tryd.func27 (by kernel_rfl) rfl #[.agg #[.slice A0_2 l0_2.length c0_2, .slice A0_3 l0_3.length c0_3]] rfl (by (try simp only [List.map_toArray, List.map_cons, List.map_nil]); rfl) ?_; (with_reducible refine (result_empty.calls _ _ l0_2 _ _ l0_3 false _ ?side1 ?side2 ?side3 ?side4 A61.out).mono ?_); (case side1 => repeat (exact (Kd.C_below HR0_2.out HB.out))); (case side2 => exact HC0_2.out); (case side3 => repeat (exact (Kd.V_reads' HO_124003.out).2.2)); (case side4 => exact (Kd.V_reads' HO_124003.out).2.1); rintro e w71 ⟨rfl, hb⟩; refine ⟨_, rfl, ?_⟩; have n0_ := Aside0.mk (Kd.V_below (by (with_reducible repeat (fail)); exact HO_124003.out) hb); have n1_ := Aside0.mk (blk_below (g := gb123) (o := .cells #[.int .i64 a0_0, .int .i64 a0_1, .slice A0_2 l0_2.length c0_2, .slice A0_3 l0_3.length c0_3, .bool a0_4, .int .i64 a0_5] 28 (0, 0)) (by (with_reducible repeat (fail)); exact BK123.out) hb); have n2_ := Aside0.mk (below_step (by repeat ((with_reducible exact HB.out))) hb); clear HO_124003; clear BK123; clear HB; have HO_124003 := n0_; have BK123 := n1_; have HB := n2_; clear n0_ n1_ n2_; (try clear hb)))
        go_ret
        exact ⟨by rfl, by repeat ((with_reducible exact HB.out))⟩
      rw [if_neg c60] at H
      have c60b0 : (a0_1 == 2) = false := beq_eq_false_iff_ne.mpr c60
      have c60b1 : (a0_1 != 2) = true := bne_iff_ne.mpr c60
      by_cases c72 : a0_1 = 3
      · rw [if_pos c72] at H
        have c72b0 : (a0_1 == 3) = true := beq_iff_eq.mpr c72
        have c72b1 : (a0_1 != 3) = false := bne_eq_false_iff_eq.mpr c72
        clear c72
        replace H := Option.bind_eq_some_iff.mp H
        obtain ⟨t132, A730, H⟩ := H
        replace H : (if t132 = true then (if a0_4 = true then (some 2) else (some 0)) else (some 2)) = some r := H
        have A73 := Aside0.mk A730
        clear A730
        by_cases c74 : t132 = true
        · subst c74
          have H1 : (if a0_4 = true then (some 2) else (some 0)) = some r := by rw [if_pos rfl] at H; exact H
          clear H
          have H := H1
          clear H1
          by_cases c75 : a0_4 = true
          · subst c75
            have H1 : (some 2) = some r := by rw [if_pos rfl] at H; exact H
            clear H
            have H := H1
            clear H1
            obtain rfl := Option.some.inj H
            have hcz76_0 : wc.cell? ⟨gb123, 0, none⟩ = some (.int .i64 a0_0) := (blk_cell BK123.out 0).trans rfl
            have hcz76_1 : wc.cell? ⟨gb123, 1, none⟩ = some (.int .i64 a0_1) := (blk_cell BK123.out 1).trans rfl
            have hcz76_2 : wc.cell? ⟨gb123, 2, none⟩ = some (.slice A0_2 l0_2.length c0_2) := (blk_cell BK123.out 2).trans rfl
            have hcz76_3 : wc.cell? ⟨gb123, 3, none⟩ = some (.slice A0_3 l0_3.length c0_3) := (blk_cell BK123.out 3).trans rfl
            have hcz76_4 : wc.cell? ⟨gb123, 4, none⟩ = some (.bool true) := (blk_cell BK123.out 4).trans rfl
            have hcz76_5 : wc.cell? ⟨gb123, 5, none⟩ = some (.int .i64 a0_5) := (blk_cell BK123.out 5).trans rfl
            have hfz76_0 := blk_frozen BK123.out 0
            have hfz76_1 := blk_frozen BK123.out 1
            have hfz76_2 := blk_frozen BK123.out 2
            have hfz76_3 := blk_frozen BK123.out 3
            have hfz76_4 := blk_frozen BK123.out 4
            have hfz76_5 := blk_frozen BK123.out 5
            go_wp2_with (((with_reducible refine gate_callee (f := 27) rfl ?_); refine goesL_ (some 94) rfl rfl Tryd.func27 (by kernel_rfl) rfl #[.agg #[.slice A0_2 l0_2.length c0_2, .slice A0_3 l0_3.length c0_3]] rfl (by (try simp only [List.map_toArray, List.map_cons, List.map_nil]); rfl) ?_; (with_reducible refine (result_empty.calls _ _ l0_2 _ _ l0_3 true _ ?side1 ?side2 ?side3 ?side4 A73.out).mono ?_); (case side1 => repeat (exact (Kd.C_below HR0_2.out HB.out))); (case side2 => exact HC0_2.out); (case side3 => repeat (exact (Kd.V_reads' HO_124003.out).2.2)); (case side4 => exact (Kd.V_reads' HO_124003.out).2.1); rintro e w77 ⟨rfl, hb⟩; refine ⟨_, rfl, ?_⟩; have n0_ := Aside0.mk (Kd.V_below (by (with_reducible repeat (fail)); exact HO_124003.out) hb); have n1_ := Aside0.mk (blk_below (g := gb123) (o := .cells #[.int .i64 a0_0, .int .i64 a0_1, .slice A0_2 l0_2.length c0_2, .slice A0_3 l0_3.length c0_3, .bool true, .int .i64 a0_5] 28 (0, 0)) (by (with_reducible repeat (fail)); exact BK123.out) hb); have n2_ := Aside0.mk (below_step (by repeat ((with_reducible exact HB.out))) hb); clear HO_124003; clear BK123; clear HB; have HO_124003 := n0_; have BK123 := n1_; have HB := n2_; clear n0_ n1_ n2_; (try clear hb); have hcz78_0 : w77.cell? ⟨gb123, 0, none⟩ = some (.int .i64 a0_0) := (blk_cell BK123.out 0).trans rfl; have hcz78_1 : w77.cell? ⟨gb123, 1, none⟩ = some (.int .i64 a0_1) := (blk_cell BK123.out 1).trans rfl; have hcz78_2 : w77.cell? ⟨gb123, 2, none⟩ = some (.slice A0_2 l0_2.length c0_2) := (blk_cell BK123.out 2).trans rfl; have hcz78_3 : w77.cell? ⟨gb123, 3, none⟩ = some (.slice A0_3 l0_3.length c0_3) := (blk_cell BK123.out 3).trans rfl; have hcz78_4 : w77.cell? ⟨gb123, 4, none⟩ = some (.bool true) := (blk_cell BK123.out 4).trans rfl; have hcz78_5 : w77.cell? ⟨gb123, 5, none⟩ = some (.int .i64 a0_5) := (blk_cell BK123.out 5).trans rfl; have hfz78_0 := blk_frozen BK123.out 0; have hfz78_1 := blk_frozen BK123.out 1; have hfz78_2 := blk_frozen BK123.out 2; have hfz78_3 := blk_frozen BK123.out 3; have hfz78_4 := blk_frozen BK123.out 4; have hfz78_5 := blk_frozen BK123.out 5))
            go_ret
            exact ⟨by rfl, by repeat ((with_reducible exact HB.out))⟩
          replace c75 := Bool.eq_false_iff.mpr c75
          subst c75
          have H1 : (some 0) = some r := by rw [if_neg (show ¬ (false = true) by decide)] at H; exact H
          clear H
          have H := H1
          clear H1
          obtain rfl := Option.some.inj H
          have hcz79_0 : wc.cell? ⟨gb123, 0, none⟩ = some (.int .i64 a0_0) := (blk_cell BK123.out 0).trans rfl
          have hcz79_1 : wc.cell? ⟨gb123, 1, none⟩ = some (.int .i64 a0_1) := (blk_cell BK123.out 1).trans rfl
          have hcz79_2 : wc.cell? ⟨gb123, 2, none⟩ = some (.slice A0_2 l0_2.length c0_2) := (blk_cell BK123.out 2).trans rfl
          have hcz79_3 : wc.cell? ⟨gb123, 3, none⟩ = some (.slice A0_3 l0_3.length c0_3) := (blk_cell BK123.out 3).trans rfl
          have hcz79_4 : wc.cell? ⟨gb123, 4, none⟩ = some (.bool false) := (blk_cell BK123.out 4).trans rfl
          have hcz79_5 : wc.cell? ⟨gb123, 5, none⟩ = some (.int .i64 a0_5) := (blk_cell BK123.out 5).trans rfl
          have hfz79_0 := blk_frozen BK123.out 0
          have hfz79_1 := blk_frozen BK123.out 1
          have hfz79_2 := blk_frozen BK123.out 2
          have hfz79_3 := blk_frozen BK123.out 3
          have hfz79_4 := blk_frozen BK123.out 4
          have hfz79_5 := blk_frozen BK123.out 5
          go_wp2_with (((with_reducible refine gate_callee (f := 27) rfl ?_); refine goesL_ (some 94) rfl rfl Tryd.func27 (by kernel_rfl) rfl #[.agg #[.slice A0_2 l0_2.length c0_2, .slice A0_3 l0_3.length c0_3]] rfl (by (try simp only [List.map_toArray, List.map_cons, List.map_nil]); rfl) ?_; (with_reducible refine (result_empty.calls _ _ l0_2 _ _ l0_3 true _ ?side1 ?side2 ?side3 ?side4 A73.out).mono ?_); (case side1 => repeat (exact (Kd.C_below HR0_2.out HB.out))); (case side2 => exact HC0_2.out); (case side3 => repeat (exact (Kd.V_reads' HO_124003.out).2.2)); (case side4 => exact (Kd.V_reads' HO_124003.out).2.1); rintro e w80 ⟨rfl, hb⟩; refine ⟨_, rfl, ?_⟩; have n0_ := Aside0.mk (Kd.V_below (by (with_reducible repeat (fail)); exact HO_124003.out) hb); have n1_ := Aside0.mk (blk_below (g := gb123) (o := .cells #[.int .i64 a0_0, .int .i64 a0_1, .slice A0_2 l0_2.length c0_2, .slice A0_3 l0_3.length c0_3, .bool false, .int .i64 a0_5] 28 (0, 0)) (by (with_reducible repeat (fail)); exact BK123.out) hb); have n2_ := Aside0.mk (below_step (by repeat ((with_reducible exact HB.out))) hb); clear HO_124003; clear BK123; clear HB; have HO_124003 := n0_; have BK123 := n1_; have HB := n2_; clear n0_ n1_ n2_; (try clear hb); have hcz81_0 : w80.cell? ⟨gb123, 0, none⟩ = some (.int .i64 a0_0) := (blk_cell BK123.out 0).trans rfl; have hcz81_1 : w80.cell? ⟨gb123, 1, none⟩ = some (.int .i64 a0_1) := (blk_cell BK123.out 1).trans rfl; have hcz81_2 : w80.cell? ⟨gb123, 2, none⟩ = some (.slice A0_2 l0_2.length c0_2) := (blk_cell BK123.out 2).trans rfl; have hcz81_3 : w80.cell? ⟨gb123, 3, none⟩ = some (.slice A0_3 l0_3.length c0_3) := (blk_cell BK123.out 3).trans rfl; have hcz81_4 : w80.cell? ⟨gb123, 4, none⟩ = some (.bool false) := (blk_cell BK123.out 4).trans rfl; have hcz81_5 : w80.cell? ⟨gb123, 5, none⟩ = some (.int .i64 a0_5) := (blk_cell BK123.out 5).trans rfl; have hfz81_0 := blk_frozen BK123.out 0; have hfz81_1 := blk_frozen BK123.out 1; have hfz81_2 := blk_frozen BK123.out 2; have hfz81_3 := blk_frozen BK123.out 3; have hfz81_4 := blk_frozen BK123.out 4; have hfz81_5 := blk_frozen BK123.out 5))
          go_ret
          exact ⟨by rfl, by repeat ((with_reducible exact HB.out))⟩
        replace c74 := Bool.eq_false_iff.mpr c74
        subst c74
        have H1 : (some 2) = some r := by rw [if_neg (show ¬ (false = true) by decide)] at H; exact H
        clear H
        have H := H1
        clear H1
        obtain rfl := Option.some.inj H
        have hcz82_0 : wc.cell? ⟨gb123, 0, none⟩ = some (.int .i64 a0_0) := (blk_cell BK123.out 0).trans rfl
        have hcz82_1 : wc.cell? ⟨gb123, 1, none⟩ = some (.int .i64 a0_1) := (blk_cell BK123.out 1).trans rfl
        have hcz82_2 : wc.cell? ⟨gb123, 2, none⟩ = some (.slice A0_2 l0_2.length c0_2) := (blk_cell BK123.out 2).trans rfl
        have hcz82_3 : wc.cell? ⟨gb123, 3, none⟩ = some (.slice A0_3 l0_3.length c0_3) := (blk_cell BK123.out 3).trans rfl
        have hcz82_4 : wc.cell? ⟨gb123, 4, none⟩ = some (.bool a0_4) := (blk_cell BK123.out 4).trans rfl
        have hcz82_5 : wc.cell? ⟨gb123, 5, none⟩ = some (.int .i64 a0_5) := (blk_cell BK123.out 5).trans rfl
        have hfz82_0 := blk_frozen BK123.out 0
        have hfz82_1 := blk_frozen BK123.out 1
        have hfz82_2 := blk_frozen BK123.out 2
        have hfz82_3 := blk_frozen BK123.out 3
        have hfz82_4 := blk_frozen BK123.out 4
        have hfz82_5 := blk_frozen BK123.out 5
        go_wp2_with (((with_reducible refine gate_callee (f := 27) rfl ?_); refine goesL_ (some 94) rfl rfl Tryd.func27 (by kernel_rfl) rfl #[.agg #[.slice A0_2 l0_2.length c0_2, .slice A0_3 l0_3.length c0_3]] rfl (by (try simp only [List.map_toArray, List.map_cons, List.map_nil]); rfl) ?_; (with_reducible refine (result_empty.calls _ _ l0_2 _ _ l0_3 false _ ?side1 ?side2 ?side3 ?side4 A73.out).mono ?_); (case side1 => repeat (exact (Kd.C_below HR0_2.out HB.out))); (case side2 => exact HC0_2.out); (case side3 => repeat (exact (Kd.V_reads' HO_124003.out).2.2)); (case side4 => exact (Kd.V_reads' HO_124003.out).2.1); rintro e w83 ⟨rfl, hb⟩; refine ⟨_, rfl, ?_⟩; have n0_ := Aside0.mk (Kd.V_below (by (with_reducible repeat (fail)); exact HO_124003.out) hb); have n1_ := Aside0.mk (blk_below (g := gb123) (o := .cells #[.int .i64 a0_0, .int .i64 a0_1, .slice A0_2 l0_2.length c0_2, .slice A0_3 l0_3.length c0_3, .bool a0_4, .int .i64 a0_5] 28 (0, 0)) (by (with_reducible repeat (fail)); exact BK123.out) hb); have n2_ := Aside0.mk (below_step (by repeat ((with_reducible exact HB.out))) hb); clear HO_124003; clear BK123; clear HB; have HO_124003 := n0_; have BK123 := n1_; have HB := n2_; clear n0_ n1_ n2_; (try clear hb)))
        go_ret
        exact ⟨by rfl, by repeat ((with_reducible exact HB.out))⟩
      rw [if_neg c72] at H
      have c72b0 : (a0_1 == 3) = false := beq_eq_false_iff_ne.mpr c72
      have c72b1 : (a0_1 != 3) = true := bne_iff_ne.mpr c72
      obtain rfl := Option.some.inj H
      have hcz84_0 : wc.cell? ⟨gb123, 0, none⟩ = some (.int .i64 a0_0) := (blk_cell BK123.out 0).trans rfl
      have hcz84_1 : wc.cell? ⟨gb123, 1, none⟩ = some (.int .i64 a0_1) := (blk_cell BK123.out 1).trans rfl
      have hcz84_2 : wc.cell? ⟨gb123, 2, none⟩ = some (.slice A0_2 l0_2.length c0_2) := (blk_cell BK123.out 2).trans rfl
      have hcz84_3 : wc.cell? ⟨gb123, 3, none⟩ = some (.slice A0_3 l0_3.length c0_3) := (blk_cell BK123.out 3).trans rfl
      have hcz84_4 : wc.cell? ⟨gb123, 4, none⟩ = some (.bool a0_4) := (blk_cell BK123.out 4).trans rfl
      have hcz84_5 : wc.cell? ⟨gb123, 5, none⟩ = some (.int .i64 a0_5) := (blk_cell BK123.out 5).trans rfl
      have hfz84_0 := blk_frozen BK123.out 0
      have hfz84_1 := blk_frozen BK123.out 1
      have hfz84_2 := blk_frozen BK123.out 2
      have hfz84_3 := blk_frozen BK123.out 3
      have hfz84_4 := blk_frozen BK123.out 4
      have hfz84_5 := blk_frozen BK123.out 5
      go_wp2
      go_ret
      exact ⟨by rfl, by repeat ((with_reducible exact HB.out))⟩
end Go.Proofs.YtgabadlneeffkaaDoor.S
