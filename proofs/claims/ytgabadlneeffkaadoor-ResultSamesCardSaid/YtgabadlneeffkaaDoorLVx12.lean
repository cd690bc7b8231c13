-- Written by lp.py: a program of this session's over the kit's printer. Not trusted: Lean checks it.
import Derived.Test.YtgabadlneeffkaaDoorLVx0
import Derived.Test.YtgabadlneeffkaaDoorLVx9
import Derived.Test.YtgabadlneeffkaaDoorLVx11
namespace Go.Proofs.YtgabadlneeffkaaDoor.S
open Go.RowKit Go.Proofs.YtgabadlneeffkaaDoorW.PrintWords Go.Proofs.YtgabadlneeffkaaDoorW.PrintLast Go.Proofs.YtgabadlneeffkaaDoorW.PrintMore
attribute [local go_sem] max2_int min2_int max_two min_two max_three min_three max_four min_four
set_option linter.unusedVariables false
set_option linter.unusedSimpArgs false
mutual
def result_rows.j1 : Nat → List ByteArray → List ByteArray → Option (List ByteArray × (List (List (S43))) × Bool)
  | 0, _, _ => none
  | k + 1, x0, x228000 => if 1 ≤ (x0.length : Int) then ((some (x0.drop 1 : List ByteArray)).bind fun y238 => (result_rows.l1 k y238 (y238.length : Int) 0 x228000 ([] : List (List (S43))))) else (none)
def result_rows.l1 : Nat → List ByteArray → Int → Int → List ByteArray → List (List (S43)) → Option (List ByteArray × (List (List (S43))) × Bool)
  | 0, _, _, _, _, _ => none
  | k + 1, x44, x45, x46, x228000, x228001 => if x46 < x45 then (if 0 ≤ x46 then (if x46 < (x44.length : Int) then ((result_split.f (rdOf ByteArray.empty x44 x46) (x228000.length : Int)).bind fun t247 => (result_rows.l2 k (([] : List (S43))) x44 x45 x46 t247 (t247.length : Int) 0 x228000 x228001)) else (none)) else (none)) else (some (x228000, x228001, true))
def result_rows.l2 : Nat → List (S43) → List ByteArray → Int → Int → List ByteArray → Int → Int → List ByteArray → List (List (S43)) → Option (List ByteArray × (List (List (S43))) × Bool)
  | 0, _, _, _, _, _, _, _, _, _ => none
  | k + 1, x9, x44, x45, x46, x55, x56, x57, x228000, x228001 => if x57 < x56 then (if 0 ≤ x57 then (if x57 < (x55.length : Int) then ((term_Read.f k (rdOf ByteArray.empty x55 x57)).bind fun bt251 => (if bt251.2.2.2.2 = 0 then (if x9.length < 2513169434916 then (result_rows.l2 k (x9 ++ [(⟨bt251.1, bt251.2.1, bt251.2.2.1, bt251.2.2.2.1⟩ : S43)]) x44 x45 x46 x55 x56 (wrap64 (x57 + 1)) x228000 x228001) else (none)) else (some (x228000, x228001, false)))) else (none)) else (none)) else (if x228001.length < 5864062014805 then (result_rows.l1 k x44 x45 (wrap64 (x46 + 1)) x228000 (x228001 ++ [x9])) else (none))
def result_rows.l0 : Nat → List ByteArray → List ByteArray → Int → Int → List ByteArray → Option (List ByteArray × (List (List (S43))) × Bool)
  | 0, _, _, _, _, _ => none
  | k + 1, x0, x25, x26, x27, x228000 => if x27 < x26 then (if 0 ≤ x27 then (if x27 < (x25.length : Int) then ((strings_HasPrefix.f (rdOf ByteArray.empty x25 x27) (⟨#[63]⟩ : ByteArray)).bind fun t234 => (if t234 = true then (if 1 ≤ ((rdOf ByteArray.empty x25 x27).size : Int) then (if x228000.length < 8796093022208 then (result_rows.l0 k x0 x25 x26 (wrap64 (x27 + 1)) (x228000 ++ [(rdOf ByteArray.empty x25 x27).extract 1 (rdOf ByteArray.empty x25 x27).size])) else (none)) else (none)) else (some (x228000, ([] : List (List (S43))), false)))) else (none)) else (none)) else (result_rows.j1 k x0 x228000)
end
def result_rows.f (k : Nat) (l0 : List ByteArray) : Option (List ByteArray × (List (List (S43))) × Bool) := if (l0.length : Int) = 0 then (some (([] : List ByteArray), ([] : List (List (S43))), false)) else (if 0 < (l0.length : Int) then (if (rdOf ByteArray.empty l0 0).toList = ([] : List UInt8) then (result_rows.j1 k l0 ([] : List ByteArray)) else ((strings_Split.f (rdOf ByteArray.empty l0 0) (⟨#[9]⟩ : ByteArray)).bind fun t230 => (result_rows.l0 k l0 t230 (t230.length : Int) 0 ([] : List ByteArray)))) else (none))
def result_rows.T10 : Bool × List (List Nat × List Nat) := (true, [([], []), ([0], [0]), ([], []), ([2], [2]), ([3], [3]), ([1, 4], [1, 4]), ([0, 1, 2, 3, 4, 5], []), ([6, 5, 5, 0, 1, 2, 3, 4, 5], [5, 6])])
def result_rows.B10 : List Nat := [0, 1, 0, 4, 12, 31, 63, 127]
theorem result_rows.tab10 : rtab .any (opsOf Tryd.f19 10) = result_rows.T10 := by kernel_rfl
theorem result_rows.bits10 : waitsOk result_rows.T10.2 result_rows.B10 = true := by kernel_rfl
set_option maxHeartbeats 8000000 in
set_option maxRecDepth 100000 in
theorem result_rows.calls (k : Nat) (P0_ : Nat → Prop) (A0 : Option Addr) (c0 : Nat) (l0 : List ByteArray) (r1 : List ByteArray) (r2 : List (List (S43))) (r3 : Bool) (w : World) (hs0 : Kd.V Kd.string 9 w w.heap.size (fun k_ => P0_ k_) (.slice A0 l0.length c0) l0) (hG : Gl w) (h : result_rows.f k l0 = some (r1, r2, r3)) :
    Calls Tryd.prog 19 #[.slice A0 l0.length c0] w fun e w' => ∃ v0_ v1_ : Value, e = .returned (.tuple #[.agg #[v0_, v1_], .bool r3]) ∧ Kd.R Kd.string 9 w' w.heap.size (fun k_ => (w.heap.size ≤ k_)) v0_ r1 ∧ Kd.S (Kd.slice 43 k43) 40 w' w.heap.size (fun k_ => (w.heap.size ≤ k_)) v1_ r2 ∧ Below w.heap.size w w' := by
  have hu25 := Tryd.underlying25
  have hu43 := Tryd.underlying43
  have HGL := Aside0.mk hG
  clear hG
  have HO0 := Aside0.mk (show Kd.V Kd.string 9 w w.heap.size (fun k_ => (P0_ k_ ∨ w.heap.size ≤ k_)) (.slice A0 l0.length c0) l0 from Kd.V_mono hs0 (fun k_ hk => .inl hk))
  have HB := Aside0.mk (Below.refl w.heap.size w)
  have H : (if (l0.length : Int) = 0 then (some (([] : List ByteArray), ([] : List (List (S43))), false)) else (if 0 < (l0.length : Int) then (if (rdOf ByteArray.empty l0 0).toList = ([] : List UInt8) then (result_rows.j1 k l0 ([] : List ByteArray)) else ((strings_Split.f (rdOf ByteArray.empty l0 0) (⟨#[9]⟩ : ByteArray)).bind fun t230 => (result_rows.l0 k l0 t230 (t230.length : Int) 0 ([] : List ByteArray)))) else (none))) = some (r1, r2, r3) := h
  clear h
  by_cases c2 : (l0.length : Int) = 0
  · rw [if_pos c2] at H
    have c2b0 : ((l0.length : Int) == 0) = true := beq_iff_eq.mpr c2
    have c2b1 : ((l0.length : Int) != 0) = false := bne_eq_false_iff_eq.mpr c2
    clear c2
    simp only [Option.some.injEq, Prod.mk.injEq] at H
    obtain ⟨rfl, rfl, rfl⟩ := H
    go_enter Tryd.func19, Tryd.ntmps19
    go_wp2_with (first | ((with_reducible refine gate_dst (N := 2) rfl ?_); refine box_event ?hg (N := 2) ?hd (cs := #[.slice none 0 0, .slice none 0 0]) (t := 25) ?hr ?_; (case hd => rfl); (case hg => rfl); (case hr => (go_simp; done)); intro gb226 hg w3 hbox hb; have n0_ := Aside0.mk (Kd.V_below (Kd.V_elderB (by (with_reducible repeat (fail)); exact HO0.out) gb226 (Nat.le_of_eq hg.symm)) hb); have n1_ := Aside0.mk (below_step (by repeat ((with_reducible exact HB.out))) hb); have n2_ := Aside0.mk (hbox); have n3_ := Aside0.mk ((by rw [hg]; exact (below_size (by repeat ((with_reducible exact HB.out)))) : w.heap.size ≤ gb226)); have n4_ := Aside0.mk ((by rw [hg]; exact (below_size (by repeat ((with_reducible exact HB.out)))) : w.heap.size ≤ gb226)); clear HO0; clear HB; have HO0 := n0_; have HB := n1_; have BK226 := n2_; have GW226 := n3_; have GE226 := n4_; clear n0_ n1_ n2_ n3_ n4_; clear hb hbox hg) | ((with_reducible refine gate_dst (N := 4) rfl ?_); refine box_event ?hg (N := 4) ?hd (cs := #[.slice none 0 0, .slice none 0 0]) (t := 25) ?hr ?_; (case hd => rfl); (case hg => rfl); (case hr => (go_simp; done)); intro gb227 hg w4 hbox hb; have n0_ := Aside0.mk (Kd.V_below (Kd.V_elderB (by (with_reducible repeat (fail)); exact HO0.out) gb227 (Nat.le_of_eq hg.symm)) hb); have n1_ := Aside0.mk (blk_below (g := gb226) (o := .cells #[.slice none 0 0, .slice none 0 0] 25 (0, 0)) (by (with_reducible repeat (fail)); exact BK226.out) hb); have n2_ := Aside0.mk (below_step (by repeat ((with_reducible exact HB.out))) hb); have n3_ := Aside0.mk (hbox); have n4_ := Aside0.mk ((by rw [hg]; exact (below_size (by repeat ((with_reducible exact HB.out)))) : w.heap.size ≤ gb227)); have n5_ := Aside0.mk ((by rw [hg]; exact (below_size (by repeat ((with_reducible exact HB.out)))) : w.heap.size ≤ gb227)); have n6_ := Aside0.mk ((by rw [hg]; exact Nat.ne_of_lt (blk_lt (g := gb226) (o := .cells #[.slice none 0 0, .slice none 0 0] 25 (0, 0)) (by (with_reducible repeat (fail)); exact BK226.out)) : gb226 ≠ gb227)); have n7_ := Aside0.mk ((by rw [hg]; exact Nat.ne_of_gt (blk_lt (g := gb226) (o := .cells #[.slice none 0 0, .slice none 0 0] 25 (0, 0)) (by (with_reducible repeat (fail)); exact BK226.out)) : gb227 ≠ gb226)); clear HO0; clear BK226; clear HB; have HO0 := n0_; have BK226 := n1_; have HB := n2_; have BK227 := n3_; have GW227 := n4_; have GE227 := n5_; have NB226_227 := n6_; have NB227_226 := n7_; clear n0_ n1_ n2_ n3_ n4_ n5_ n6_ n7_; clear hb hbox hg; have hnb5 := NB227_226.out; have hnc5 := NB226_227.out; have hcz6_0 : w4.cell? ⟨gb227, 0, none⟩ = some (.slice none 0 0) := (blk_cell BK227.out 0).trans rfl; have hcz6_1 : w4.cell? ⟨gb227, 1, none⟩ = some (.slice none 0 0) := (blk_cell BK227.out 1).trans rfl; have hfz6_0 := blk_frozen BK227.out 0; have hfz6_1 := blk_frozen BK227.out 1; have hcz7_0 : w4.cell? ⟨gb226, 0, none⟩ = some (.slice none 0 0) := (blk_cell BK226.out 0).trans rfl; have hcz7_1 : w4.cell? ⟨gb226, 1, none⟩ = some (.slice none 0 0) := (blk_cell BK226.out 1).trans rfl; have hfz7_0 := blk_frozen BK226.out 0; have hfz7_1 := blk_frozen BK226.out 1))
    refine bodyPost_ret (results_ct rfl _ _ gb226 25 #[.slice none 0 0, .slice none 0 0] (0, 0) _ rfl (by (with_reducible repeat (fail)); refine blk_put (cs := #[.slice none 0 0, .slice none 0 0]) ?_ 1 _ rfl; (with_reducible repeat (fail)); refine blk_put (cs := #[.slice none 0 0, .slice none 0 0]) ?_ 0 _ rfl; (with_reducible repeat (fail)); exact BK226.out) Tryd.underlying25 rfl (by kernel_rfl)) rfl ?_
    exact ⟨_, _, by rfl, by exact Kd.R_nil _ _ _ _ _, by exact Kd.S_nil _ _ _ _ _, by repeat ((with_reducible first | exact HB.out | refine below_set ?_ GE226.out))⟩
  rw [if_neg c2] at H
  have c2b0 : ((l0.length : Int) == 0) = false := beq_eq_false_iff_ne.mpr c2
  have c2b1 : ((l0.length : Int) != 0) = true := bne_iff_ne.mpr c2
  have c2b2 : ¬ (l0 = []) := fun h_ => c2 (by rw [h_]; rfl)
  by_cases c8 : 0 < (l0.length : Int)
  · rw [if_pos c8] at H
    have c8b0 : decide (0 < (l0.length : Int)) = true := decide_eq_true c8
    have c8b1 : decide (0 < l0.length) = true := decide_eq_true (by omega)
    clear c8
    have HC9 := Aside0.mk H
    clear H
    go_enter Tryd.func19, Tryd.ntmps19
    go_upto_if 21 with (first | ((with_reducible refine gate_dst (N := 2) rfl ?_); refine box_event ?hg (N := 2) ?hd (cs := #[.slice none 0 0, .slice none 0 0]) (t := 25) ?hr ?_; (case hd => rfl); (case hg => rfl); (case hr => (go_simp; done)); intro gb226 hg w10 hbox hb; have n0_ := Aside0.mk (Kd.V_below (Kd.V_elderB (by (with_reducible repeat (fail)); exact HO0.out) gb226 (Nat.le_of_eq hg.symm)) hb); have n1_ := Aside0.mk (below_step (by repeat ((with_reducible exact HB.out))) hb); have n2_ := Aside0.mk (hbox); have n3_ := Aside0.mk ((by rw [hg]; exact (below_size (by repeat ((with_reducible exact HB.out)))) : w.heap.size ≤ gb226)); have n4_ := Aside0.mk ((by rw [hg]; exact (below_size (by repeat ((with_reducible exact HB.out)))) : w.heap.size ≤ gb226)); clear HO0; clear HB; have HO0 := n0_; have HB := n1_; have BK226 := n2_; have GW226 := n3_; have GE226 := n4_; clear n0_ n1_ n2_ n3_ n4_; clear hb hbox hg) | ((with_reducible refine gate_dst (N := 4) rfl ?_); refine box_event ?hg (N := 4) ?hd (cs := #[.slice none 0 0, .slice none 0 0]) (t := 25) ?hr ?_; (case hd => rfl); (case hg => rfl); (case hr => (go_simp; done)); intro gb227 hg w11 hbox hb; have n0_ := Aside0.mk (Kd.V_below (Kd.V_elderB (by (with_reducible repeat (fail)); exact HO0.out) gb227 (Nat.le_of_eq hg.symm)) hb); have n1_ := Aside0.mk (blk_below (g := gb226) (o := .cells #[.slice none 0 0, .slice none 0 0] 25 (0, 0)) (by (with_reducible repeat (fail)); exact BK226.out) hb); have n2_ := Aside0.mk (below_step (by repeat ((with_reducible exact HB.out))) hb); have n3_ := Aside0.mk (hbox); have n4_ := Aside0.mk ((by rw [hg]; exact (below_size (by repeat ((with_reducible exact HB.out)))) : w.heap.size ≤ gb227)); have n5_ := Aside0.mk ((by rw [hg]; exact (below_size (by repeat ((with_reducible exact HB.out)))) : w.heap.size ≤ gb227)); have n6_ := Aside0.mk ((by rw [hg]; exact Nat.ne_of_lt (blk_lt (g := gb226) (o := .cells #[.slice none 0 0, .slice none 0 0] 25 (0, 0)) (by (with_reducible repeat (fail)); exact BK226.out)) : gb226 ≠ gb227)); have n7_ := Aside0.mk ((by rw [hg]; exact Nat.ne_of_gt (blk_lt (g := gb226) (o := .cells #[.slice none 0 0, .slice none 0 0] 25 (0, 0)) (by (with_reducible repeat (fail)); exact BK226.out)) : gb227 ≠ gb226)); clear HO0; clear BK226; clear HB; have HO0 := n0_; have BK226 := n1_; have HB := n2_; have BK227 := n3_; have GW227 := n4_; have GE227 := n5_; have NB226_227 := n6_; have NB227_226 := n7_; clear n0_ n1_ n2_ n3_ n4_ n5_ n6_ n7_; clear hb hbox hg; have p228 : 0 ≤ (0 : Int) := (by omega); have q228 : 0 < (l0.length : Int) := of_decide_eq_true (by (with_reducible assumption)); obtain ⟨ad228, e228, hx228_0⟩ := Kd.at_string (Kd.V_reads' HO0.out).2.2 0 p228 q228; cases e228; have qi228 : (0 < l0.length) = True := eq_true (by omega); (try rw [show ((0 : Int)).toNat = 0 from rfl] at hx228_0); (try rw [Addr.add_zero'] at hx228_0); replace p228 := eq_true p228; replace q228 := eq_true q228))
    go_cut [] (fun wc => ∃ (kq : Nat) (x228000_8 : List ByteArray) (u228000 : Value), Aside0 (result_rows.j1 kq l0 x228000_8 = some (r1, r2, r3)) ∧ Aside0 (kq ≤ k) ∧ Aside0 (Kd.V Kd.string 9 wc w.heap.size (fun k_ => (P0_ k_ ∨ w.heap.size ≤ k_) ∧ some k_ ≠ (u228000 : Value).ownBlock ∧ k_ ≠ gb226 ∧ k_ ≠ gb227) (.slice (some ad228) l0.length c0) l0) ∧ Aside0 (Kd.R Kd.string 9 wc w.heap.size (fun k_ => (w.heap.size ≤ k_)) u228000 x228000_8) ∧ Aside0 (wc.heap[gb226]? = some (.cells #[(.slice none 0 0), (.slice none 0 0)] 25 (0, 0))) ∧ Aside0 (wc.heap[gb227]? = some (.cells #[u228000, (.slice none 0 0)] 25 (0, 0))) ∧ Aside0 (Below w.heap.size w wc))
    case first =>
      have H := HC9.out
      clear HC9
      by_cases c12 : (rdOf ByteArray.empty l0 0).toList = ([] : List UInt8)
      · rw [if_pos c12] at H
        have c12b0 : ((rdOf ByteArray.empty l0 0).toList == ([] : List UInt8)) = true := beq_iff_eq.mpr c12
        (try (have c12b0e : (rdOf ByteArray.empty l0 0).toList.isEmpty = true := by simpa using c12))
        (try (have c12b0f : (!(rdOf ByteArray.empty l0 0).toList.isEmpty) = false := by simpa using c12))
        have c12b1 : ((rdOf ByteArray.empty l0 0).toList != ([] : List UInt8)) = false := bne_eq_false_iff_eq.mpr c12
        clear c12
        have H' := Aside0.mk H
        clear H
        (try simp only [c12b0e, Bool.not_true, Bool.not_false])
        go_wp2
        go_meet
        case rel => exact ⟨_, (([] : List ByteArray)), (.slice none 0 0), H', ⟨by omega⟩, ⟨by (with_reducible repeat (fail)); exact Kd.V_mono HO0.out (fun _ hk => ⟨hk.1.1, ⟨(by simp [Value.ownBlock]), ⟨hk.1.2, hk.2⟩⟩⟩)⟩, ⟨by exact Kd.R_nil _ _ _ _ _⟩, ⟨by (with_reducible repeat (fail)); exact BK226.out⟩, ⟨by (with_reducible repeat (fail)); exact BK227.out⟩, ⟨by repeat ((with_reducible exact HB.out))⟩⟩
      rw [if_neg c12] at H
      have c12b0 : ((rdOf ByteArray.empty l0 0).toList == ([] : List UInt8)) = false := beq_eq_false_iff_ne.mpr c12
      (try (have c12b0e : (rdOf ByteArray.empty l0 0).toList.isEmpty = false := by simpa using c12))
      (try (have c12b0f : (!(rdOf ByteArray.empty l0 0).toList.isEmpty) = true := by simpa using c12))
      have c12b1 : ((rdOf ByteArray.empty l0 0).toList != ([] : List UInt8)) = true := bne_iff_ne.mpr c12
      replace H := Option.bind_eq_some_iff.mp H
      obtain ⟨t230, A130, H⟩ := H
      replace H : (result_rows.l0 k l0 t230 (t230.length : Int) 0 ([] : List ByteArray)) = some (r1, r2, r3) := H
      have A13 := Aside0.mk A130
      clear A130
      have H' := Aside0.mk H
      clear H
      (try simp only [c12b0e, Bool.not_true, Bool.not_false])
      have p229 : 0 ≤ (0 : Int) := (by omega)
      have q229 : 0 < (l0.length : Int) := of_decide_eq_true (by (with_reducible assumption))
      obtain ⟨ad229, e229, hx229_0⟩ := Kd.at_string (Kd.V_reads' HO0.out).2.2 0 p229 q229
      obtain rfl : ad228 = ad229 := (by injection e229)
      have qi229 : (0 < l0.length) = True := eq_true (by omega)
      (try rw [show ((0 : Int)).toNat = 0 from rfl] at hx229_0)
      (try rw [Addr.add_zero'] at hx229_0)
      replace p229 := eq_true p229
      replace q229 := eq_true q229
      go_wp2_with (((with_reducible refine gate_callee (f := 17) rfl ?_); refine goesL_ (some 25) rfl rfl Tryd.func17 (by kernel_rfl) rfl #[.string (rdOf ByteArray.empty l0 0), .string (⟨#[9]⟩ : ByteArray)] rfl (by (try simp only [List.map_toArray, List.map_cons, List.map_nil]); rfl) ?_; (with_reducible refine (strings_Split.calls (rdOf ByteArray.empty l0 0) (⟨#[9]⟩ : ByteArray) t230 _ (Gl.below HGL.out (by repeat ((with_reducible exact HB.out)))) A13.out).mono ?_); rintro e w14 ⟨v231, rfl, ho0, hb⟩; refine ⟨_, rfl, ?_⟩; have n0_ := Aside0.mk (Kd.V_elder' (by (with_reducible repeat (fail)); exact HO0.out) (Kd.R_base ho0) hb); have n1_ := Aside0.mk (Kd.R_lower (Kd.R_newM (M := fun k_ => (w.heap.size ≤ k_)) ho0 (below_size (by repeat ((with_reducible exact HB.out)))) (fun k_ h_ => h_)) (below_size (by repeat ((with_reducible exact HB.out))))); have n2_ := Aside0.mk (blk_below (g := gb226) (o := .cells #[.slice none 0 0, .slice none 0 0] 25 (0, 0)) (by (with_reducible repeat (fail)); exact BK226.out) hb); have n3_ := Aside0.mk (blk_below (g := gb227) (o := .cells #[.slice none 0 0, .slice none 0 0] 25 (0, 0)) (by (with_reducible repeat (fail)); exact BK227.out) hb); have n4_ := Aside0.mk (below_step (by repeat ((with_reducible exact HB.out))) hb); clear HO0; clear BK226; clear BK227; clear HB; have HO0 := n0_; have HO232 := n1_; have BK226 := n2_; have BK227 := n3_; have HB := n4_; clear n0_ n1_ n2_ n3_ n4_; (try clear hb); (try clear ho0); obtain ⟨Ao15, co15, eo15⟩ := Kd.R_slice HO232.out; subst eo15))
      go_loopg [27] k (fun kq v27 w' => ∃ (x27_1 : Int) (x228000_1 : List ByteArray) (u228000 : Value), v27 = .int .i64 x27_1 ∧ Aside0 (result_rows.l0 kq l0 t230 (t230.length : Int) x27_1 x228000_1 = some (r1, r2, r3)) ∧ Aside0 (kq ≤ k) ∧ Aside0 (Kd.V Kd.string 9 w' w.heap.size (fun k_ => (P0_ k_ ∨ w.heap.size ≤ k_) ∧ some k_ ≠ ((.slice Ao15 t230.length co15) : Value).ownBlock ∧ some k_ ≠ (u228000 : Value).ownBlock ∧ k_ ≠ gb226 ∧ k_ ≠ gb227) (.slice (some ad228) l0.length c0) l0) ∧ Aside0 (Kd.R Kd.string 9 w' w.heap.size (fun k_ => (w.heap.size ≤ k_) ∧ some k_ ≠ (u228000 : Value).ownBlock) (.slice Ao15 t230.length co15) t230) ∧ Aside0 (Kd.R Kd.string 9 w' w.heap.size (fun k_ => (w.heap.size ≤ k_) ∧ some k_ ≠ ((.slice Ao15 t230.length co15) : Value).ownBlock) u228000 x228000_1) ∧ Aside0 (w'.heap[gb226]? = some (.cells #[(.slice none 0 0), (.slice none 0 0)] 25 (0, 0))) ∧ Aside0 (w'.heap[gb227]? = some (.cells #[u228000, (.slice none 0 0)] 25 (0, 0))) ∧ Aside0 (Below w.heap.size w w'))
      case atStart => exact ⟨(0), (([] : List ByteArray)), (.slice none 0 0), (by rfl), H', ⟨Nat.le_refl _⟩, ⟨by (with_reducible repeat (fail)); exact Kd.V_mono HO0.out (fun _ hk => ⟨hk.1.1.1, ⟨hk.2, ⟨(by simp [Value.ownBlock]), ⟨hk.1.1.2, hk.1.2⟩⟩⟩⟩)⟩, ⟨by (with_reducible repeat (fail)); exact Kd.R_mono HO232.out (fun _ hk => ⟨hk.1, (by simp [Value.ownBlock])⟩)⟩, ⟨by exact Kd.R_nil _ _ _ _ _⟩, ⟨by (with_reducible repeat (fail)); exact BK226.out⟩, ⟨by (with_reducible repeat (fail)); exact BK227.out⟩, ⟨by repeat ((with_reducible exact HB.out))⟩⟩
      case round =>
        clear H'
        try clear c2
        try clear c2b0
        try clear c2b1
        try clear c2b2
        try clear c8b0
        try clear c8b1
        try clear c12
        try clear c12b0
        try clear c12b1
        try clear hx228_0
        try clear hx229_0
        try clear p228
        try clear p229
        try clear q228
        try clear q229
        obtain ⟨x27_1, x228000_1, u228000, rfl, HA, HK1, HO_0, HO_25, HO_228000, BK226, BK227, HB⟩ := hrel
        cases gk with
        | zero => exact absurd HA.out (by simp [result_rows.l0])
        | succ k1 =>
          have H := HA.out
          clear HA
          simp only [result_rows.l0] at H
          by_cases c16 : x27_1 < (t230.length : Int)
          · rw [if_pos c16] at H
            have c16b0 : decide (x27_1 < (t230.length : Int)) = true := decide_eq_true c16
            clear c16
            by_cases c17 : 0 ≤ x27_1
            · rw [if_pos c17] at H
              have c17b0 : decide (0 ≤ x27_1) = true := decide_eq_true c17
              clear c17
              by_cases c18 : x27_1 < (t230.length : Int)
              · rw [if_pos c18] at H
                have c18b0 : decide (x27_1 < (t230.length : Int)) = true := decide_eq_true c18
                clear c18
                replace H := Option.bind_eq_some_iff.mp H
                obtain ⟨t234, A190, H⟩ := H
                replace H : (if t234 = true then (if 1 ≤ ((rdOf ByteArray.empty t230 x27_1).size : Int) then (if x228000_1.length < 8796093022208 then (result_rows.l0 k1 l0 t230 (t230.length : Int) (wrap64 (x27_1 + 1)) (x228000_1 ++ [(rdOf ByteArray.empty t230 x27_1).extract 1 (rdOf ByteArray.empty t230 x27_1).size])) else (none)) else (none)) else (some (x228000_1, ([] : List (List (S43))), false))) = some (r1, r2, r3) := H
                have A19 := Aside0.mk A190
                clear A190
                by_cases c20 : t234 = true
                · subst c20
                  have H1 : (if 1 ≤ ((rdOf ByteArray.empty t230 x27_1).size : Int) then (if x228000_1.length < 8796093022208 then (result_rows.l0 k1 l0 t230 (t230.length : Int) (wrap64 (x27_1 + 1)) (x228000_1 ++ [(rdOf ByteArray.empty t230 x27_1).extract 1 (rdOf ByteArray.empty t230 x27_1).size])) else (none)) else (none)) = some (r1, r2, r3) := by rw [if_pos rfl] at H; exact H
                  clear H
                  have H := H1
                  clear H1
                  by_cases c21 : 1 ≤ ((rdOf ByteArray.empty t230 x27_1).size : Int)
                  · rw [if_pos c21] at H
                    have c21b0 := eq_true c21
                    have c21b1 : decide (1 ≤ ((rdOf ByteArray.empty t230 x27_1).size : Int)) = true := decide_eq_true c21
                    clear c21
                    by_cases c22 : x228000_1.length < 8796093022208
                    · rw [if_pos c22] at H
                      have LMc22 := Aside0.mk c22
                      clear c22
                      obtain ⟨y235, hy235⟩ : ∃ y_ : List ByteArray, y_ = (x228000_1 ++ [(rdOf ByteArray.empty t230 x27_1).extract 1 (rdOf ByteArray.empty t230 x27_1).size]) := ⟨_, rfl⟩
                      replace H : (result_rows.l0 k1 l0 t230 (t230.length : Int) (wrap64 (x27_1 + 1)) y235) = some (r1, r2, r3) := by (rw [hy235]; with_reducible exact H)
                      have Ny235 := Aside0.mk hy235
                      clear hy235
                      have H' := Aside0.mk H
                      clear H
                      have p233 : 0 ≤ (x27_1 : Int) := of_decide_eq_true (by (with_reducible assumption))
                      have q233 : x27_1 < (t230.length : Int) := of_decide_eq_true (by (with_reducible assumption))
                      obtain ⟨ad233, e233, hx233_0⟩ := Kd.at_string (Kd.R_reads' HO_25.out).2.2 x27_1 p233 q233
                      cases e233
                      replace p233 := eq_true p233
                      replace q233 := eq_true q233
                      try go_wp2_with (((with_reducible refine gate_callee (f := 20) rfl ?_); refine goesL_ (some 32) rfl rfl Tryd.func20 (by kernel_rfl) rfl #[.string (rdOf ByteArray.empty t230 x27_1), .string (⟨#[63]⟩ : ByteArray)] rfl (by (try simp only [List.map_toArray, List.map_cons, List.map_nil]); rfl) ?_; (with_reducible refine (strings_HasPrefix.calls (rdOf ByteArray.empty t230 x27_1) (⟨#[63]⟩ : ByteArray) true _ A19.out).mono ?_); rintro e w' ⟨rfl, ⟨nd, rfl⟩⟩; refine ⟨_, rfl, ?_⟩; (try (rw [drewN_self wr]; generalize hq_ : World.drewN wr _ = wr; have n0_ : Aside0 (Kd.V Kd.string 9 wr w.heap.size (fun k_ => (P0_ k_ ∨ w.heap.size ≤ k_) ∧ some k_ ≠ (.slice (some ad233) t230.length co15 : Value).ownBlock ∧ some k_ ≠ (u228000 : Value).ownBlock ∧ k_ ≠ gb226 ∧ k_ ≠ gb227) (.slice (some ad228) l0.length c0) l0) := ⟨by rw [← hq_]; exact (by (with_reducible repeat (apply Kd.V_drewN)); exact HO_0.out)⟩; have n1_ : Aside0 (Kd.R Kd.string 9 wr w.heap.size (fun k_ => (w.heap.size ≤ k_) ∧ some k_ ≠ (u228000 : Value).ownBlock) (.slice (some ad233) t230.length co15) t230) := ⟨by rw [← hq_]; exact (by (with_reducible repeat (apply Kd.R_drewN)); exact HO_25.out)⟩; have n2_ : Aside0 (Kd.R Kd.string 9 wr w.heap.size (fun k_ => (w.heap.size ≤ k_) ∧ some k_ ≠ (.slice (some ad233) t230.length co15 : Value).ownBlock) u228000 x228000_1) := ⟨by rw [← hq_]; exact (by (with_reducible repeat (apply Kd.R_drewN)); exact HO_228000.out)⟩; have n3_ : Aside0 (wr.heap[gb226]? = some (.cells #[.slice none 0 0, .slice none 0 0] 25 (0, 0))) := ⟨by rw [← hq_]; exact (by (with_reducible repeat (refine blk_drewN ?_ _)); exact BK226.out)⟩; have n4_ : Aside0 (wr.heap[gb227]? = some (.cells #[u228000, .slice none 0 0] 25 (0, 0))) := ⟨by rw [← hq_]; exact (by (with_reducible repeat (refine blk_drewN ?_ _)); exact BK227.out)⟩; have n5_ : Aside0 (Below w.heap.size w wr) := ⟨by rw [← hq_]; exact (by repeat ((with_reducible first | exact HB.out | apply pw_below_drewN)))⟩; clear HO_0 HO_25 HO_228000 BK226 BK227 HB hq_; have HO_0 := n0_; have HO_25 := n1_; have HO_228000 := n2_; have BK226 := n3_; have BK227 := n4_; have HB := n5_; clear n0_ n1_ n2_ n3_ n4_ n5_))))
                      have n0_ := Aside0.mk (Kd.V_drew HO_0.out)
                      have n1_ := Aside0.mk (Kd.R_drew HO_25.out)
                      have n2_ := Aside0.mk (Kd.R_drew HO_228000.out)
                      have n3_ := Aside0.mk (blk_drew BK226.out)
                      have n4_ := Aside0.mk (blk_drew BK227.out)
                      have n5_ := Aside0.mk (below_drew1 HB.out)
                      clear HO_0
                      clear HO_25
                      clear HO_228000
                      clear BK226
                      clear BK227
                      clear HB
                      have HO_0 := n0_
                      have HO_25 := n1_
                      have HO_228000 := n2_
                      have BK226 := n3_
                      have BK227 := n4_
                      have HB := n5_
                      clear n0_ n1_ n2_ n3_ n4_ n5_
                      refine start_ (n := 8) (S := fun w' => w'.cell? ⟨gb227, 0, none⟩ = some (u228000) ∧ w'.cell? ⟨gb227, 1, none⟩ = some (.slice none 0 0)) (ds := [7]) #[false, false, false, false, false, false, false, false] (by kernel_rfl) rfl rfl ⟨(blk_cell BK227.out 0).trans rfl, (blk_cell BK227.out 1).trans rfl⟩ (fun hHeld => ?_); refine with_tabW result_rows.tab10 result_rows.bits10 (fun HT_ HW_ => ?_)
                      generalize wr.drew = w23 at HO_0 HO_25 HO_228000 BK226 BK227 HB hHeld ⊢
                      refine pure_ (i := 0) (N := some 35) (v := ?_) (a' := ?_) #[true, false, false, false, false, false, false, false] rfl rfl (any_of HT_.out (by kernel_rfl)) (fun _ _ _ h => h) (Or.inl ⟨by rfl, ?_⟩) ?_ ?_
                      rotate_left
                      · intro w'
                        go_simp
                        with_reducible rfl
                      rotate_left
                      · simp only [Act.put, List.setIfInBounds_toArray, List.set_cons_zero, List.set_cons_succ, i64_w, i32_w]
                        rfl
                      refine pure_ (i := 2) (N := some 37) (v := ?_) (a' := ?_) #[true, false, true, false, false, false, false, false] rfl rfl (any_of HT_.out (by kernel_rfl)) (fun _ _ _ h => h) (Or.inl ⟨by rfl, ?_⟩) ?_ ?_
                      rotate_left
                      · intro w'
                        go_simp
                        with_reducible rfl
                      rotate_left
                      · simp only [Act.put, List.setIfInBounds_toArray, List.set_cons_zero, List.set_cons_succ, i64_w, i32_w]
                        rfl
                      refine pure_ (i := 3) (N := some 38) (v := ?_) (a' := ?_) #[true, false, true, true, false, false, false, false] rfl rfl (any_of HT_.out (by kernel_rfl)) (fun _ _ _ h => h) (Or.inl ⟨by rfl, ?_⟩) ?_ ?_
                      rotate_left
                      · intro w'
                        go_simp
                        with_reducible rfl
                      rotate_left
                      · simp only [Act.put, List.setIfInBounds_toArray, List.set_cons_zero, List.set_cons_succ, i64_w, i32_w]
                        rfl
                      refine take_ (i := 1) (N := some 36) (v := ?_) (a' := ?_) #[true, true, true, true, false, false, false, false] rfl rfl (take_ofW HT_.out HW_.out (by kernel_rfl)) (fun _ _ _ h => h) (Or.inl ⟨by rfl, ?_⟩) hHeld ?_ ?_
                      rotate_left
                      · rintro w' ⟨s0, s1⟩
                        go_simp
                        with_reducible rfl
                      rotate_left
                      · simp only [Act.put, List.setIfInBounds_toArray, List.set_cons_zero, List.set_cons_succ, i64_w, i32_w]
                        rfl
                      refine one_ (i := 4) (N := some 39) #[true, true, true, true, true, false, false, false] rfl rfl (one_of HT_.out (by kernel_rfl)) (by decide) (fun K hK => ?_)
                      refine value_ (w1 := ?_) (v := ?_) (by rfl) rfl ?_ ?_
                      rotate_left 2
                      · go_simp
                        constructor
                        · rfl
                        rfl
                      refine hK.out _ _ ⟨(blk_cell (blk_alloc BK227.out _) 0).trans rfl, (blk_cell (blk_alloc BK227.out _) 1).trans rfl⟩ (fun hHeld => ?_)
                      clear hK K
                      refine norm_ (a' := ?_) ?_ ?_
                      rotate_left
                      · show Act.put _ (some 39) _ = _
                        simp only [Act.put, List.setIfInBounds_toArray, List.set_cons_zero, List.set_cons_succ, i64_w, i32_w]
                        rfl
                      refine one_ (i := 5) (N := some 40) #[true, true, true, true, true, true, false, false] rfl rfl (one_of HT_.out (by kernel_rfl)) (by decide) (fun K hK => ?_)
                      refine Kd.R_append_step Kd.string (w0 := w) w.heap.size (by rfl) (.tmp 36) (.tmp 39) 22 9 (.string ⟨#[]⟩) 16 rfl Tryd.underlying22 info9 rfl (by decide) (by omega) u228000 x228000_1 ((rdOf ByteArray.empty t230 x27_1).extract 1 (rdOf ByteArray.empty t230 x27_1).size) [.string ((rdOf ByteArray.empty t230 x27_1).extract 1 (rdOf ByteArray.empty t230 x27_1).size)] (fun k_ => (w.heap.size ≤ k_) ∧ some k_ ≠ (.slice (some ad233) t230.length co15 : Value).ownBlock) (fun _ => False) rfl rfl ?aP (fun _ hk => hk.elim) ?aF ?aO ?aB ?aS ?aL ?_
                      (case aP => exact rfl)
                      (case aB => exact (by repeat ((with_reducible exact HB.out))))
                      (case aF => exact (fun k_ hk => ⟨(Nat.le_trans (below_size (by repeat ((with_reducible exact HB.out)))) hk), Kd.fresh' (Kd.R_lt (by (with_reducible repeat (fail)); exact HO_25.out)) k_ hk⟩))
                      (case aO => exact (by (with_reducible repeat (fail)); exact HO_228000.out))
                      (case aS => exact (below_size (by repeat ((with_reducible exact HB.out)))))
                      (case aL => have := LMc22.out; omega)
                      intro v236 w24 ho hb hg hat
                      rw [← Ny235.out] at ho
                      have n0_ := Aside0.mk (Kd.V_afterv (ok := (fun k_ => (P0_ k_ ∨ w.heap.size ≤ k_) ∧ some k_ ≠ (.slice (some ad233) t230.length co15 : Value).ownBlock ∧ k_ ≠ gb226 ∧ k_ ≠ gb227)) (by (with_reducible repeat (fail)); exact Kd.V_mono HO_0.out (fun _ hk => ⟨⟨hk.1, ⟨hk.2.1, ⟨hk.2.2.2.1, hk.2.2.2.2⟩⟩⟩, hk.2.2.1⟩)) hg hat)
                      have n1_ := Aside0.mk (Kd.R_after (ok := (fun k_ => (w.heap.size ≤ k_))) (by (with_reducible repeat (fail)); exact HO_25.out) hg hat)
                      have n2_ := Aside0.mk (blk_grown (g := gb226) (o := .cells #[.slice none 0 0, .slice none 0 0] 25 (0, 0)) (by (with_reducible repeat (fail)); exact BK226.out) hg (Kd.R_ne HO_228000.out BK226.out (by decide)))
                      have n3_ := Aside0.mk (blk_grown (g := gb227) (o := .cells #[u228000, .slice none 0 0] 25 (0, 0)) (by (with_reducible repeat (fail)); exact BK227.out) hg (Kd.R_ne HO_228000.out BK227.out (by decide)))
                      have n4_ := Aside0.mk (hb)
                      have n5_ := Aside0.mk (ho)
                      clear HO_0
                      clear HO_25
                      clear BK226
                      clear BK227
                      clear HB
                      clear HO_228000
                      have HO_0 := n0_
                      have HO_25 := n1_
                      have BK226 := n2_
                      have BK227 := n3_
                      have HB := n4_
                      have HO237 := n5_
                      clear n0_ n1_ n2_ n3_ n4_ n5_
                      clear ho hb hg hat
                      obtain ⟨Ao25, co25, eo25⟩ := Kd.R_slice HO237.out
                      (subst eo25)
                      refine hK.out _ _ ⟨(blk_cell BK227.out 0).trans rfl, (blk_cell BK227.out 1).trans rfl⟩ (fun hHeld => ?_)
                      clear hK K
                      refine norm_ (a' := ?_) ?_ ?_
                      rotate_left
                      · show Act.put _ (some 40) _ = _
                        simp only [Act.put, List.setIfInBounds_toArray, List.set_cons_zero, List.set_cons_succ, i64_w, i32_w]
                        rfl
                      refine pure_ (i := 6) (N := some 41) (v := ?_) (a' := ?_) #[true, true, true, true, true, true, true, false] rfl rfl (any_of HT_.out (by kernel_rfl)) (fun _ _ _ h => h) (Or.inl ⟨by rfl, ?_⟩) ?_ ?_
                      rotate_left
                      · intro w'
                        go_simp
                        with_reducible rfl
                      rotate_left
                      · simp only [Act.put, List.setIfInBounds_toArray, List.set_cons_zero, List.set_cons_succ, i64_w, i32_w]
                        rfl
                      refine last_ (i := 7) (N := none) #[true, true, true, true, true, true, true, true] rfl rfl (one_of HT_.out (by kernel_rfl)) (by decide) (fun K hK => ?_)
                      have hs26 : w24.cell? ⟨gb227, 0, none⟩ = some (u228000) := (blk_cell BK227.out 0).trans rfl
                      have hfs26 := blk_frozen BK227.out 0
                      have hns26_0 := NB226_227.out
                      have hms26_0 := NB227_226.out
                      refine skip_ (w1 := ?_) (by rfl) rfl ?_ ?_
                      rotate_left
                      · go_simp
                        rfl
                      refine hK.out _ _ ?_
                      clear hK K
                      refine done_ (done_of HT_.out (by kernel_rfl)) ?_
                      try go_wp2
                      go_roundg k1
                      case measure => have := HK1.out; omega
                      case rel => exact ⟨(wrap64 (x27_1 + 1)), (y235), (.slice Ao25 y235.length co25), (by rfl), H', ⟨by have := HK1.out; omega⟩, ⟨by (with_reducible repeat (fail)); exact Kd.V_mono (Kd.V_far (p := ⟨gb227, 0, none⟩) (Kd.V_mono HO_0.out (fun k_ hk => (⟨hk, hk.1.2.2.2⟩ : _ ∧ k_ ≠ gb227))) (fun _ hk => hk.2) (.slice Ao25 y235.length co25)) (fun _ hk => ⟨hk.1.1.1, ⟨hk.1.1.2.1, ⟨hk.1.2, ⟨hk.1.1.2.2.1, hk.1.1.2.2.2⟩⟩⟩⟩)⟩, ⟨by (with_reducible repeat (fail)); exact Kd.R_mono (Kd.R_far (p := ⟨gb227, 0, none⟩) (Kd.R_types HO_25.out BK227.out (by decide)) (fun _ hk => hk.2) (.slice Ao25 y235.length co25)) (fun _ hk => ⟨hk.1.1, hk.1.2⟩)⟩, ⟨by (with_reducible repeat (fail)); exact Kd.R_mono (Kd.R_far (p := ⟨gb227, 0, none⟩) (Kd.R_types HO237.out BK227.out (by decide)) (fun _ hk => hk.2) (.slice Ao25 y235.length co25)) (fun _ hk => ⟨hk.1.1, hk.1.2⟩)⟩, ⟨by (with_reducible repeat (fail)); refine blk_far ?_ NB226_227.out _; (with_reducible repeat (fail)); exact BK226.out⟩, ⟨by (with_reducible repeat (fail)); refine blk_put (cs := #[u228000, .slice none 0 0]) ?_ 0 _ rfl; (with_reducible repeat (fail)); exact BK227.out⟩, ⟨by repeat ((with_reducible first | exact HB.out | refine below_set ?_ GE227.out))⟩⟩
                    rw [if_neg c22] at H
                    exact absurd H (by simp)
                  rw [if_neg c21] at H
                  exact absurd H (by simp)
                replace c20 := Bool.eq_false_iff.mpr c20
                subst c20
                have H1 : (some (x228000_1, ([] : List (List (S43))), false)) = some (r1, r2, r3) := by rw [if_neg (show ¬ (false = true) by decide)] at H; exact H
                clear H
                have H := H1
                clear H1
                simp only [Option.some.injEq, Prod.mk.injEq] at H
                obtain ⟨rfl, rfl, rfl⟩ := H
                have p233 : 0 ≤ (x27_1 : Int) := of_decide_eq_true (by (with_reducible assumption))
                have q233 : x27_1 < (t230.length : Int) := of_decide_eq_true (by (with_reducible assumption))
                obtain ⟨ad233, e233, hx233_0⟩ := Kd.at_string (Kd.R_reads' HO_25.out).2.2 x27_1 p233 q233
                cases e233
                replace p233 := eq_true p233
                replace q233 := eq_true q233
                go_wp2_with (((with_reducible refine gate_callee (f := 20) rfl ?_); refine goesL_ (some 32) rfl rfl Tryd.func20 (by kernel_rfl) rfl #[.string (rdOf ByteArray.empty t230 x27_1), .string (⟨#[63]⟩ : ByteArray)] rfl (by (try simp only [List.map_toArray, List.map_cons, List.map_nil]); rfl) ?_; (with_reducible refine (strings_HasPrefix.calls (rdOf ByteArray.empty t230 x27_1) (⟨#[63]⟩ : ByteArray) false _ A19.out).mono ?_); rintro e w' ⟨rfl, ⟨nd, rfl⟩⟩; refine ⟨_, rfl, ?_⟩; (try (rw [drewN_self wr]; generalize hq_ : World.drewN wr _ = wr; have n0_ : Aside0 (Kd.V Kd.string 9 wr w.heap.size (fun k_ => (P0_ k_ ∨ w.heap.size ≤ k_) ∧ some k_ ≠ (.slice (some ad233) t230.length co15 : Value).ownBlock ∧ some k_ ≠ (u228000 : Value).ownBlock ∧ k_ ≠ gb226 ∧ k_ ≠ gb227) (.slice (some ad228) l0.length c0) l0) := ⟨by rw [← hq_]; exact (by (with_reducible repeat (apply Kd.V_drewN)); exact HO_0.out)⟩; have n1_ : Aside0 (Kd.R Kd.string 9 wr w.heap.size (fun k_ => (w.heap.size ≤ k_) ∧ some k_ ≠ (u228000 : Value).ownBlock) (.slice (some ad233) t230.length co15) t230) := ⟨by rw [← hq_]; exact (by (with_reducible repeat (apply Kd.R_drewN)); exact HO_25.out)⟩; have n2_ : Aside0 (Kd.R Kd.string 9 wr w.heap.size (fun k_ => (w.heap.size ≤ k_) ∧ some k_ ≠ (.slice (some ad233) t230.length co15 : Value).ownBlock) u228000 x228000_1) := ⟨by rw [← hq_]; exact (by (with_reducible repeat (apply Kd.R_drewN)); exact HO_228000.out)⟩; have n3_ : Aside0 (wr.heap[gb226]? = some (.cells #[.slice none 0 0, .slice none 0 0] 25 (0, 0))) := ⟨by rw [← hq_]; exact (by (with_reducible repeat (refine blk_drewN ?_ _)); exact BK226.out)⟩; have n4_ : Aside0 (wr.heap[gb227]? = some (.cells #[u228000, .slice none 0 0] 25 (0, 0))) := ⟨by rw [← hq_]; exact (by (with_reducible repeat (refine blk_drewN ?_ _)); exact BK227.out)⟩; have n5_ : Aside0 (Below w.heap.size w wr) := ⟨by rw [← hq_]; exact (by repeat ((with_reducible first | exact HB.out | apply pw_below_drewN)))⟩; clear HO_0 HO_25 HO_228000 BK226 BK227 HB hq_; have HO_0 := n0_; have HO_25 := n1_; have HO_228000 := n2_; have BK226 := n3_; have BK227 := n4_; have HB := n5_; clear n0_ n1_ n2_ n3_ n4_ n5_)); have hnb27 := NB227_226.out; have hnc27 := NB226_227.out; have hcz28_0 : wr.cell? ⟨gb227, 0, none⟩ = some (u228000) := (blk_cell BK227.out 0).trans rfl; have hcz28_1 : wr.cell? ⟨gb227, 1, none⟩ = some (.slice none 0 0) := (blk_cell BK227.out 1).trans rfl; have hfz28_0 := blk_frozen BK227.out 0; have hfz28_1 := blk_frozen BK227.out 1; obtain ⟨Ao29, co29, eo29⟩ := Kd.R_slice HO_228000.out; subst eo29; have hcz30_0 : wr.cell? ⟨gb226, 0, none⟩ = some (.slice none 0 0) := (blk_cell BK226.out 0).trans rfl; have hcz30_1 : wr.cell? ⟨gb226, 1, none⟩ = some (.slice none 0 0) := (blk_cell BK226.out 1).trans rfl; have hfz30_0 := blk_frozen BK226.out 0; have hfz30_1 := blk_frozen BK226.out 1))
                refine bodyPost_ret (results_ct rfl _ _ gb226 25 #[.slice Ao29 x228000_1.length co29, .slice none 0 0] (0, 0) _ rfl (by (with_reducible repeat (fail)); refine blk_put (cs := #[.slice Ao29 x228000_1.length co29, .slice none 0 0]) ?_ 1 _ rfl; (with_reducible repeat (fail)); refine blk_put (cs := #[.slice none 0 0, .slice none 0 0]) ?_ 0 _ rfl; (with_reducible repeat (fail)); exact BK226.out) Tryd.underlying25 rfl (by kernel_rfl)) rfl ?_
                exact ⟨_, _, by rfl, by (with_reducible repeat (fail)); exact Kd.R_mono (Kd.R_far (p := ⟨gb226, 1, none⟩) (Kd.R_far (p := ⟨gb226, 0, none⟩) (Kd.R_types HO_228000.out BK226.out (by decide)) (fun _ hk => hk.2) (.slice Ao29 x228000_1.length co29)) (fun _ hk => hk.2) (.slice none 0 0)) (fun _ hk => hk.1.1), by exact Kd.S_nil _ _ _ _ _, by repeat ((with_reducible first | exact HB.out | refine below_set ?_ GE226.out))⟩
              rw [if_neg c18] at H
              exact absurd H (by simp)
            rw [if_neg c17] at H
            exact absurd H (by simp)
          rw [if_neg c16] at H
          have c16b0 : decide (x27_1 < (t230.length : Int)) = false := decide_eq_false c16
          clear c16
          have H' := Aside0.mk H
          clear H
          go_wp2
          go_meet
          case rel => exact ⟨_, (x228000_1), (u228000), H', ⟨by have := HK1.out; omega⟩, ⟨by (with_reducible repeat (fail)); exact Kd.V_mono HO_0.out (fun _ hk => ⟨hk.1, ⟨hk.2.2.1, ⟨hk.2.2.2.1, hk.2.2.2.2⟩⟩⟩)⟩, ⟨by (with_reducible repeat (fail)); exact Kd.R_mono HO_228000.out (fun _ hk => hk.1)⟩, ⟨by (with_reducible repeat (fail)); exact BK226.out⟩, ⟨by (with_reducible repeat (fail)); exact BK227.out⟩, ⟨by repeat ((with_reducible exact HB.out))⟩⟩
    case rest =>
      clear HC9
      try clear c2
      try clear c2b0
      try clear c2b1
      try clear c2b2
      try clear c8b0
      try clear c8b1
      try clear hx228_0
      try clear p228
      try clear q228
      obtain ⟨kq, x228000_8, u228000, HA, HJ8, HO_0, HO_228000, BK226, BK227, HB⟩ := hcut
      cases kq with
      | zero => exact absurd HA.out (by simp [result_rows.j1])
      | succ kj8 =>
        have H := HA.out
        clear HA
        simp only [result_rows.j1] at H
        by_cases c31 : 1 ≤ (l0.length : Int)
        · rw [if_pos c31] at H
          have c31b0 := eq_true c31
          have c31b1 : decide (1 ≤ (l0.length : Int)) = true := decide_eq_true c31
          clear c31
          obtain ⟨y238, hy238⟩ : ∃ y_ : List ByteArray, y_ = (l0.drop 1) := ⟨_, rfl⟩
          replace H : (result_rows.l1 kj8 y238 (y238.length : Int) 0 x228000_8 ([] : List (List (S43)))) = some (r1, r2, r3) := by (have H2_ := (Option.bind_some _ _).symm.trans H; rw [hy238]; with_reducible exact H2_)
          have Ny238 := Aside0.mk hy238
          clear hy238
          have H' := Aside0.mk H
          clear H
          have q32 : (1 : Int) ≤ ((l0.length : Int) : Int) := of_decide_eq_true (by (with_reducible assumption))
          obtain ⟨i032, hi032, _, hsz32, _⟩ := info_parts info9
          have hroom32 : l0.length ≤ c0 := (Kd.V_reads' HO_0.out).2.1
          have hC32 : Kd.F Kd.string _ _ (some ad228) l0.length l0 := (Kd.V_at (base := w.heap.size) HO_0.out).2.2
          have hcut32 := cut_from (P := Tryd.prog) 22 9 .i64 Tryd.underlying22 hi032 1 hsz32 (some ad228) l0.length c0 1 (by omega) q32
          have hr32 := Kd.F_cut (m := (1 : Int).toNat) (c := c0) hC32 (by omega) hroom32
          obtain ⟨A32, hA32⟩ : ∃ A1, A1 = (if c0 = (1 : Int).toNat then (some ad228) else ((some ad228) : Option Addr).map (·.add ((1 : Int).toNat * 1))) := ⟨_, rfl⟩
          obtain ⟨c32, hc32⟩ : ∃ c1, c1 = c0 - (1 : Int).toNat := ⟨_, rfl⟩
          have hy32 : y238.length = l0.length - (1 : Int).toNat := (by rw [Ny238.out, List.length_drop] <;> omega)
          rw [show (l0).drop (1 : Int).toNat = y238 from Ny238.out.symm] at hr32
          replace hr32 : Kd.F Kd.string _ _ A32 y238.length y238 := (by rw [hA32]; exact hr32)
          rw [← hy32, ← hA32, ← hc32] at hcut32
          have HO242 := Aside0.mk (show Kd.V Kd.string 9 _ w.heap.size _ (.slice A32 y238.length c32) y238 from Kd.V_mk (by rw [hy32, hc32]; exact Nat.sub_le_sub_right hroom32 _) hr32)
          have HC242 := Aside0.mk (show y238.length ≤ c32 from by rw [hy32, hc32]; exact Nat.sub_le_sub_right hroom32 _)
          clear hr32 hC32 hroom32 hi032 hsz32 hc32
          have KY32 := Aside0.mk hy32
          have KA32 := Aside0.mk hA32
          clear hy32 hA32
          replace q32 := eq_true q32
          go_wp2
          go_loopg [46] kj8 (fun kq v46 w' => ∃ (x46_2 : Int) (x228001_2 : List (List (S43))) (u228001 : Value), v46 = .int .i64 x46_2 ∧ Aside0 (result_rows.l1 kq y238 (y238.length : Int) x46_2 x228000_8 x228001_2 = some (r1, r2, r3)) ∧ Aside0 (kq ≤ kj8) ∧ Aside0 (Kd.V Kd.string 9 w' w.heap.size (fun k_ => (P0_ k_ ∨ w.heap.size ≤ k_) ∧ some k_ ≠ (u228000 : Value).ownBlock ∧ some k_ ≠ (u228001 : Value).ownBlock ∧ k_ ≠ gb226 ∧ k_ ≠ gb227) (.slice A32 y238.length c32) y238) ∧ Aside0 (Kd.R Kd.string 9 w' w.heap.size (fun k_ => (w.heap.size ≤ k_)) u228000 x228000_8) ∧ Aside0 (Kd.S (Kd.slice 43 k43) 40 w' w.heap.size (fun k_ => (w.heap.size ≤ k_)) u228001 x228001_2) ∧ Aside0 (w'.heap[gb226]? = some (.cells #[(.slice none 0 0), (.slice none 0 0)] 25 (0, 0))) ∧ Aside0 (w'.heap[gb227]? = some (.cells #[u228000, u228001] 25 (0, 0))) ∧ Aside0 (Below w.heap.size w w'))
          case atStart => exact ⟨(0), (([] : List (List (S43)))), (.slice none 0 0), (by rfl), H', ⟨Nat.le_refl _⟩, ⟨by (with_reducible repeat (fail)); exact Kd.V_mono HO242.out (fun _ hk => ⟨hk.1, ⟨hk.2.1, ⟨(by simp [Value.ownBlock]), ⟨hk.2.2.1, hk.2.2.2⟩⟩⟩⟩)⟩, ⟨by (with_reducible repeat (fail)); exact HO_228000.out⟩, ⟨by exact Kd.S_nil _ _ _ _ _⟩, ⟨by (with_reducible repeat (fail)); exact BK226.out⟩, ⟨by (with_reducible repeat (fail)); exact BK227.out⟩, ⟨by repeat ((with_reducible exact HB.out))⟩⟩
          case round =>
            clear H'
            try clear c31b0
            try clear c31b1
            try clear q32
            obtain ⟨x46_2, x228001_2, u228001, rfl, HA, HK2, HO_44, HO_228000, HO_228001, BK226, BK227, HB⟩ := hrel
            cases gk with
            | zero => exact absurd HA.out (by simp [result_rows.l1])
            | succ k2 =>
              have H := HA.out
              clear HA
              simp only [result_rows.l1] at H
              by_cases c33 : x46_2 < (y238.length : Int)
              · rw [if_pos c33] at H
                have c33b0 : decide (x46_2 < (y238.length : Int)) = true := decide_eq_true c33
                clear c33
                by_cases c34 : 0 ≤ x46_2
                · rw [if_pos c34] at H
                  have c34b0 : decide (0 ≤ x46_2) = true := decide_eq_true c34
                  clear c34
                  by_cases c35 : x46_2 < (y238.length : Int)
                  · rw [if_pos c35] at H
                    have c35b0 : decide (x46_2 < (y238.length : Int)) = true := decide_eq_true c35
                    clear c35
                    obtain ⟨y244, hy244⟩ : ∃ y_ : List (S43), y_ = (([] : List (S43))) := ⟨_, rfl⟩
                    replace H : ((result_split.f (rdOf ByteArray.empty y238 x46_2) (x228000_8.length : Int)).bind fun t247 => (result_rows.l2 k2 y244 y238 (y238.length : Int) x46_2 t247 (t247.length : Int) 0 x228000_8 x228001_2)) = some (r1, r2, r3) := by (rw [hy244]; with_reducible exact H)
                    have Ny244 := Aside0.mk hy244
                    clear hy244
                    replace H := Option.bind_eq_some_iff.mp H
                    obtain ⟨t247, A360, H⟩ := H
                    replace H : (result_rows.l2 k2 y244 y238 (y238.length : Int) x46_2 t247 (t247.length : Int) 0 x228000_8 x228001_2) = some (r1, r2, r3) := H
                    have A36 := Aside0.mk A360
                    clear A360
                    have H' := Aside0.mk H
                    clear H
                    have p243 : 0 ≤ (x46_2 : Int) := of_decide_eq_true (by (with_reducible assumption))
                    have q243 : x46_2 < (y238.length : Int) := of_decide_eq_true (by (with_reducible assumption))
                    obtain ⟨ad243, e243, hx243_0⟩ := Kd.at_string (Kd.V_reads' HO_44.out).2.2 x46_2 p243 q243
                    cases e243
                    replace p243 := eq_true p243
                    replace q243 := eq_true q243
                    go_wp2_with (first | ((with_reducible refine gate_dst (N := 50) rfl ?_); refine Kd.R_lit k43 _ 43 ?hg (N := 50) ?hd (xs := ([] : List (S43))) (inner := []) (ok := fun _ => True) (okp := fun _ => True) ?hr ?hp (fun _ hk => hk) trivial (Below.refl _ _) (Nat.le_refl _) (by simp) ?_; (case hd => rfl); (case hg => rfl); (case hr => (go_simp; done)); (case hp => exact (Reps.none _ _)); intro v245 w37 ho38 hb hg_ hnew_; clear hg_ hnew_; (rw [← Ny244.out] at ho38); have n0_ := Aside0.mk (Kd.V_elder' (by (with_reducible repeat (fail)); exact HO_44.out) (Kd.R_base ho38) hb); have n1_ := Aside0.mk (Kd.R_below (by (with_reducible repeat (fail)); exact HO_228000.out) hb); have n2_ := Aside0.mk (Kd.S_elder' (by (with_reducible repeat (fail)); exact HO_228001.out) (Kd.R_base ho38) hb); have n3_ := Aside0.mk (Kd.R_lower (Kd.R_newM (M := fun k_ => (w.heap.size ≤ k_)) ho38 (below_size (by repeat ((with_reducible exact HB.out)))) (fun k_ h_ => h_)) (below_size (by repeat ((with_reducible exact HB.out))))); have n4_ := Aside0.mk (blk_below (g := gb226) (o := .cells #[.slice none 0 0, .slice none 0 0] 25 (0, 0)) (by (with_reducible repeat (fail)); exact BK226.out) hb); have n5_ := Aside0.mk (blk_below (g := gb227) (o := .cells #[u228000, u228001] 25 (0, 0)) (by (with_reducible repeat (fail)); exact BK227.out) hb); have n6_ := Aside0.mk (below_step (by repeat ((with_reducible exact HB.out))) hb); clear HO_44; clear HO_228000; clear HO_228001; clear BK226; clear BK227; clear HB; have HO_44 := n0_; have HO_228000 := n1_; have HO_228001 := n2_; have HO246 := n3_; have BK226 := n4_; have BK227 := n5_; have HB := n6_; clear n0_ n1_ n2_ n3_ n4_ n5_ n6_; clear hb ho38; have hnb39 := NB227_226.out; have hnc39 := NB226_227.out; have hcz40_0 : w37.cell? ⟨gb227, 0, none⟩ = some (u228000) := (blk_cell BK227.out 0).trans rfl; have hcz40_1 : w37.cell? ⟨gb227, 1, none⟩ = some (u228001) := (blk_cell BK227.out 1).trans rfl; have hfz40_0 := blk_frozen BK227.out 0; have hfz40_1 := blk_frozen BK227.out 1; obtain ⟨Ao41, co41, eo41⟩ := Kd.R_slice HO_228000.out; subst eo41) | ((with_reducible refine gate_callee (f := 36) rfl ?_); refine goesL_ (some 55) rfl rfl Tryd.func36 (by kernel_rfl) rfl #[.string (rdOf ByteArray.empty y238 x46_2), .int .i64 (x228000_8.length : Int)] rfl (by (try simp only [List.map_toArray, List.map_cons, List.map_nil]); rfl) ?_; (with_reducible refine (result_split.calls (rdOf ByteArray.empty y238 x46_2) (x228000_8.length : Int) t247 _ (Gl.below HGL.out (by repeat ((with_reducible exact HB.out)))) A36.out).mono ?_); rintro e w42 ⟨v248, rfl, ho0, hb⟩; refine ⟨_, rfl, ?_⟩; have n0_ := Aside0.mk (Kd.V_elder' (by (with_reducible repeat (fail)); exact HO_44.out) (Kd.R_base ho0) hb); have n1_ := Aside0.mk (Kd.R_elder' (by (with_reducible repeat (fail)); exact HO_228000.out) (Kd.R_base ho0) hb); have n2_ := Aside0.mk (Kd.S_below (by (with_reducible repeat (fail)); exact HO_228001.out) hb); have n3_ := Aside0.mk (Kd.R_below (by (with_reducible repeat (fail)); exact HO246.out) hb); have n4_ := Aside0.mk (Kd.R_lower (Kd.R_new' (Kd.R_newM (M := fun k_ => (w.heap.size ≤ k_)) ho0 (below_size (by repeat ((with_reducible exact HB.out)))) (fun k_ h_ => h_)) (Kd.R_lt (by (with_reducible repeat (fail)); exact HO_228000.out))) (below_size (by repeat ((with_reducible exact HB.out))))); have n5_ := Aside0.mk (blk_below (g := gb226) (o := .cells #[.slice none 0 0, .slice none 0 0] 25 (0, 0)) (by (with_reducible repeat (fail)); exact BK226.out) hb); have n6_ := Aside0.mk (blk_below (g := gb227) (o := .cells #[.slice Ao41 x228000_8.length co41, u228001] 25 (0, 0)) (by (with_reducible repeat (fail)); exact BK227.out) hb); have n7_ := Aside0.mk (below_step (by repeat ((with_reducible exact HB.out))) hb); clear HO_44; clear HO_228000; clear HO_228001; clear HO246; clear BK226; clear BK227; clear HB; have HO_44 := n0_; have HO_228000 := n1_; have HO_228001 := n2_; have HO246 := n3_; have HO249 := n4_; have BK226 := n5_; have BK227 := n6_; have HB := n7_; clear n0_ n1_ n2_ n3_ n4_ n5_ n6_ n7_; (try clear hb); (try clear ho0); obtain ⟨Ao43, co43, eo43⟩ := Kd.R_slice HO249.out; subst eo43))
                    go_loopg [9, 57] k2 (fun kq v9 v57 w' => ∃ (x9_3 : List (S43)) (x57_3 : Int), v57 = .int .i64 x57_3 ∧ Aside0 (result_rows.l2 kq x9_3 y238 (y238.length : Int) x46_2 t247 (t247.length : Int) x57_3 x228000_8 x228001_2 = some (r1, r2, r3)) ∧ Aside0 (kq ≤ k2) ∧ Aside0 (Kd.R k43 43 w' w.heap.size (fun k_ => (w.heap.size ≤ k_)) v9 x9_3) ∧ Aside0 (Kd.V Kd.string 9 w' w.heap.size (fun k_ => (P0_ k_ ∨ w.heap.size ≤ k_) ∧ some k_ ≠ (v9 : Value).ownBlock ∧ some k_ ≠ ((.slice Ao43 t247.length co43) : Value).ownBlock ∧ some k_ ≠ ((.slice Ao41 x228000_8.length co41) : Value).ownBlock ∧ some k_ ≠ (u228001 : Value).ownBlock ∧ k_ ≠ gb226 ∧ k_ ≠ gb227) (.slice (some ad243) y238.length c32) y238) ∧ Aside0 (Kd.R Kd.string 9 w' w.heap.size (fun k_ => (w.heap.size ≤ k_) ∧ some k_ ≠ ((.slice Ao41 x228000_8.length co41) : Value).ownBlock) (.slice Ao43 t247.length co43) t247) ∧ Aside0 (Kd.R Kd.string 9 w' w.heap.size (fun k_ => (w.heap.size ≤ k_) ∧ some k_ ≠ ((.slice Ao43 t247.length co43) : Value).ownBlock) (.slice Ao41 x228000_8.length co41) x228000_8) ∧ Aside0 (Kd.S (Kd.slice 43 k43) 40 w' w.heap.size (fun k_ => (w.heap.size ≤ k_) ∧ some k_ ≠ (v9 : Value).ownBlock) u228001 x228001_2) ∧ Aside0 (w'.heap[gb226]? = some (.cells #[(.slice none 0 0), (.slice none 0 0)] 25 (0, 0))) ∧ Aside0 (w'.heap[gb227]? = some (.cells #[(.slice Ao41 x228000_8.length co41), u228001] 25 (0, 0))) ∧ Aside0 (Below w.heap.size w w'))
                    case atStart => exact ⟨(y244), (0), (by rfl), H', ⟨Nat.le_refl _⟩, ⟨by (with_reducible repeat (fail)); exact Kd.R_mono HO246.out (fun _ hk => hk.1)⟩, ⟨by (with_reducible repeat (fail)); exact Kd.V_mono HO_44.out (fun _ hk => ⟨hk.1.1.1, ⟨hk.1.2, ⟨hk.2, ⟨hk.1.1.2.1, ⟨hk.1.1.2.2.1, ⟨hk.1.1.2.2.2.1, hk.1.1.2.2.2.2⟩⟩⟩⟩⟩⟩)⟩, ⟨by (with_reducible repeat (fail)); exact Kd.R_mono HO249.out (fun _ hk => ⟨hk.1.1, hk.2⟩)⟩, ⟨by (with_reducible repeat (fail)); exact HO_228000.out⟩, ⟨by (with_reducible repeat (fail)); exact HO_228001.out⟩, ⟨by (with_reducible repeat (fail)); exact BK226.out⟩, ⟨by (with_reducible repeat (fail)); exact BK227.out⟩, ⟨by repeat ((with_reducible exact HB.out))⟩⟩
                    case round =>
                      clear H'
                      try clear c33b0
                      try clear c34b0
                      try clear c35b0
                      try clear hcz40_0
                      try clear hcz40_1
                      try clear hfz40_0
                      try clear hfz40_1
                      try clear hx243_0
                      try clear p243
                      try clear q243
                      obtain ⟨x9_3, x57_3, rfl, HA, HK3, HO_9, HO_44, HO_55, HO_228000, HO_228001, BK226, BK227, HB⟩ := hrel
                      cases gk with
                      | zero => exact absurd HA.out (by simp [result_rows.l2])
                      | succ k3 =>
                        have H := HA.out
                        clear HA
                        simp only [result_rows.l2] at H
                        by_cases c44 : x57_3 < (t247.length : Int)
                        · rw [if_pos c44] at H
                          have c44b0 : decide (x57_3 < (t247.length : Int)) = true := decide_eq_true c44
                          clear c44
                          by_cases c45 : 0 ≤ x57_3
                          · rw [if_pos c45] at H
                            have c45b0 : decide (0 ≤ x57_3) = true := decide_eq_true c45
                            clear c45
                            by_cases c46 : x57_3 < (t247.length : Int)
                            · rw [if_pos c46] at H
                              have c46b0 : decide (x57_3 < (t247.length : Int)) = true := decide_eq_true c46
                              clear c46
                              replace H := Option.bind_eq_some_iff.mp H
                              obtain ⟨⟨t251, t252, t253, t254, t255⟩, A470, H⟩ := H
                              replace H : (if t255 = 0 then (if x9_3.length < 2513169434916 then (result_rows.l2 k3 (x9_3 ++ [(⟨t251, t252, t253, t254⟩ : S43)]) y238 (y238.length : Int) x46_2 t247 (t247.length : Int) (wrap64 (x57_3 + 1)) x228000_8 x228001_2) else (none)) else (some (x228000_8, x228001_2, false))) = some (r1, r2, r3) := H
                              have A47 := Aside0.mk A470
                              clear A470
                              by_cases c48 : t255 = 0
                              · rw [if_pos c48] at H
                                have c48b0 : (t255 == 0) = true := beq_iff_eq.mpr c48
                                have c48b1 : (t255 != 0) = false := bne_eq_false_iff_eq.mpr c48
                                clear c48
                                by_cases c49 : x9_3.length < 2513169434916
                                · rw [if_pos c49] at H
                                  have LMc49 := Aside0.mk c49
                                  clear c49
                                  obtain ⟨y257, hy257⟩ : ∃ y_ : List (S43), y_ = (x9_3 ++ [(⟨t251, t252, t253, t254⟩ : S43)]) := ⟨_, rfl⟩
                                  replace H : (result_rows.l2 k3 y257 y238 (y238.length : Int) x46_2 t247 (t247.length : Int) (wrap64 (x57_3 + 1)) x228000_8 x228001_2) = some (r1, r2, r3) := by (rw [hy257]; with_reducible exact H)
                                  have Ny257 := Aside0.mk hy257
                                  clear hy257
                                  have H' := Aside0.mk H
                                  clear H
                                  have p250 : 0 ≤ (x57_3 : Int) := of_decide_eq_true (by (with_reducible assumption))
                                  have q250 : x57_3 < (t247.length : Int) := of_decide_eq_true (by (with_reducible assumption))
                                  obtain ⟨ad250, e250, hx250_0⟩ := Kd.at_string (Kd.R_reads' HO_55.out).2.2 x57_3 p250 q250
                                  cases e250
                                  replace p250 := eq_true p250
                                  replace q250 := eq_true q250
                                  go_wp2_with (first | ((with_reducible refine gate_callee (f := 37) rfl ?_); refine goesL_ (some 63) rfl rfl Tryd.func37 (by kernel_rfl) rfl #[.string (rdOf ByteArray.empty t247 x57_3)] rfl (by (try simp only [List.map_toArray, List.map_cons, List.map_nil]); rfl) ?_; (with_reducible refine (term_Read.calls k3 (rdOf ByteArray.empty t247 x57_3) t251 t252 t253 t254 t255 _ A47.out).mono ?_); rintro e w50 ⟨rfl, hb⟩; refine ⟨_, rfl, ?_⟩; have n0_ := Aside0.mk (Kd.R_below (by (with_reducible repeat (fail)); exact HO_9.out) hb); have n1_ := Aside0.mk (Kd.V_below (by (with_reducible repeat (fail)); exact HO_44.out) hb); have n2_ := Aside0.mk (Kd.R_below (by (with_reducible repeat (fail)); exact HO_55.out) hb); have n3_ := Aside0.mk (Kd.R_below (by (with_reducible repeat (fail)); exact HO_228000.out) hb); have n4_ := Aside0.mk (Kd.S_below (by (with_reducible repeat (fail)); exact HO_228001.out) hb); have n5_ := Aside0.mk (blk_below (g := gb226) (o := .cells #[.slice none 0 0, .slice none 0 0] 25 (0, 0)) (by (with_reducible repeat (fail)); exact BK226.out) hb); have n6_ := Aside0.mk (blk_below (g := gb227) (o := .cells #[.slice Ao41 x228000_8.length co41, u228001] 25 (0, 0)) (by (with_reducible repeat (fail)); exact BK227.out) hb); have n7_ := Aside0.mk (below_step (by repeat ((with_reducible exact HB.out))) hb); clear HO_9; clear HO_44; clear HO_55; clear HO_228000; clear HO_228001; clear BK226; clear BK227; clear HB; have HO_9 := n0_; have HO_44 := n1_; have HO_55 := n2_; have HO_228000 := n3_; have HO_228001 := n4_; have BK226 := n5_; have BK227 := n6_; have HB := n7_; clear n0_ n1_ n2_ n3_ n4_ n5_ n6_ n7_; (try clear hb)) | ((with_reducible refine gate_dst (N := 12) rfl ?_); refine box_event ?hg (N := 12) ?hd (cs := #[.int .i64 0, .string (⟨#[]⟩ : ByteArray), .string (⟨#[]⟩ : ByteArray), .string (⟨#[]⟩ : ByteArray)]) (t := 43) ?hr ?_; (case hd => rfl); (case hg => rfl); (case hr => (go_simp; done)); intro gb256 hg w51 hbox hb; have n0_ := Aside0.mk (Kd.R_below (Kd.R_elderB (by (with_reducible repeat (fail)); exact HO_9.out) gb256 (Nat.le_of_eq hg.symm)) hb); have n1_ := Aside0.mk (Kd.V_below (Kd.V_elderB (by (with_reducible repeat (fail)); exact HO_44.out) gb256 (Nat.le_of_eq hg.symm)) hb); have n2_ := Aside0.mk (Kd.R_below (by (with_reducible repeat (fail)); exact HO_55.out) hb); have n3_ := Aside0.mk (Kd.R_below (by (with_reducible repeat (fail)); exact HO_228000.out) hb); have n4_ := Aside0.mk (Kd.S_below (Kd.S_elderB (by (with_reducible repeat (fail)); exact HO_228001.out) gb256 (Nat.le_of_eq hg.symm)) hb); have n5_ := Aside0.mk (blk_below (g := gb226) (o := .cells #[.slice none 0 0, .slice none 0 0] 25 (0, 0)) (by (with_reducible repeat (fail)); exact BK226.out) hb); have n6_ := Aside0.mk (blk_below (g := gb227) (o := .cells #[.slice Ao41 x228000_8.length co41, u228001] 25 (0, 0)) (by (with_reducible repeat (fail)); exact BK227.out) hb); have n7_ := Aside0.mk (below_step (by repeat ((with_reducible exact HB.out))) hb); have n8_ := Aside0.mk (hbox); have n9_ := Aside0.mk ((by rw [hg]; exact (below_size (by repeat ((with_reducible exact HB.out)))) : w.heap.size ≤ gb256)); have n10_ := Aside0.mk ((by rw [hg]; exact (below_size (by repeat ((with_reducible exact HB.out)))) : w.heap.size ≤ gb256)); have n11_ := Aside0.mk ((by rw [hg]; exact Nat.ne_of_lt (blk_lt (g := gb226) (o := .cells #[.slice none 0 0, .slice none 0 0] 25 (0, 0)) (by (with_reducible repeat (fail)); exact BK226.out)) : gb226 ≠ gb256)); have n12_ := Aside0.mk ((by rw [hg]; exact Nat.ne_of_gt (blk_lt (g := gb226) (o := .cells #[.slice none 0 0, .slice none 0 0] 25 (0, 0)) (by (with_reducible repeat (fail)); exact BK226.out)) : gb256 ≠ gb226)); have n13_ := Aside0.mk ((by rw [hg]; exact Nat.ne_of_lt (blk_lt (g := gb227) (o := .cells #[.slice Ao41 x228000_8.length co41, u228001] 25 (0, 0)) (by (with_reducible repeat (fail)); exact BK227.out)) : gb227 ≠ gb256)); have n14_ := Aside0.mk ((by rw [hg]; exact Nat.ne_of_gt (blk_lt (g := gb227) (o := .cells #[.slice Ao41 x228000_8.length co41, u228001] 25 (0, 0)) (by (with_reducible repeat (fail)); exact BK227.out)) : gb256 ≠ gb227)); clear HO_9; clear HO_44; clear HO_55; clear HO_228000; clear HO_228001; clear BK226; clear BK227; clear HB; have HO_9 := n0_; have HO_44 := n1_; have HO_55 := n2_; have HO_228000 := n3_; have HO_228001 := n4_; have BK226 := n5_; have BK227 := n6_; have HB := n7_; have BK256 := n8_; have GW256 := n9_; have GE256 := n10_; have NB226_256 := n11_; have NB256_226 := n12_; have NB227_256 := n13_; have NB256_227 := n14_; clear n0_ n1_ n2_ n3_ n4_ n5_ n6_ n7_ n8_ n9_ n10_ n11_ n12_ n13_ n14_; clear hb hbox hg; have hnb52 := NB256_226.out; have hnc52 := NB226_256.out; have hnb53 := NB256_227.out; have hnc53 := NB227_256.out; have hcz54_0 : w51.cell? ⟨gb256, 0, none⟩ = some (.int .i64 0) := (blk_cell BK256.out 0).trans rfl; have hcz54_1 : w51.cell? ⟨gb256, 1, none⟩ = some (.string (⟨#[]⟩ : ByteArray)) := (blk_cell BK256.out 1).trans rfl; have hcz54_2 : w51.cell? ⟨gb256, 2, none⟩ = some (.string (⟨#[]⟩ : ByteArray)) := (blk_cell BK256.out 2).trans rfl; have hcz54_3 : w51.cell? ⟨gb256, 3, none⟩ = some (.string (⟨#[]⟩ : ByteArray)) := (blk_cell BK256.out 3).trans rfl; have hfz54_0 := blk_frozen BK256.out 0; have hfz54_1 := blk_frozen BK256.out 1; have hfz54_2 := blk_frozen BK256.out 2; have hfz54_3 := blk_frozen BK256.out 3) | ((with_reducible refine gate_builtin (b := .append) (xs := #[.tmp 69, .tmp 71]) rfl ?_); at_builtin; refine Kd.R_append k43 (w0 := w) w.heap.size rfl (.tmp 69) (.tmp 71) 40 43 (.agg #[(.int .i64 0), (.string ⟨#[]⟩), (.string ⟨#[]⟩), (.string ⟨#[]⟩)]) 56 rfl Tryd.underlying40 info43 rfl (by decide) (by omega) u9 x9_3 (⟨t251, t252, t253, t254⟩ : S43) [.int .i64 t251, .string t252, .string t253, .string t254] (fun k_ => (w.heap.size ≤ k_) ∧ k_ ≠ gb256) (fun _ => False) rfl (by (go_simp; done)) ?aP (fun _ hk => hk.elim) ?aF ?aO ?aB ?aS ?aL ?_; (case aP => exact k43_mkM _ _ _ (⟨t251, t252, t253, t254⟩ : S43)); (case aB => exact (by repeat ((with_reducible first | exact HB.out | refine below_set ?_ GE256.out)))); (case aF => exact (fun k_ hk => ⟨(Nat.le_trans (below_size (by repeat ((with_reducible first | exact HB.out | refine below_set ?_ GE256.out)))) hk), Kd.freshB (g := gb256) (o := .cells #[.int .i64 t251, .string t252, .string t253, .string t254] 43 (0, 0)) (by (with_reducible repeat (fail)); refine blk_put (cs := #[.int .i64 t251, .string t252, .string t253, .string (⟨#[]⟩ : ByteArray)]) ?_ 3 _ rfl; (with_reducible repeat (fail)); refine blk_put (cs := #[.int .i64 t251, .string t252, .string (⟨#[]⟩ : ByteArray), .string (⟨#[]⟩ : ByteArray)]) ?_ 2 _ rfl; (with_reducible repeat (fail)); refine blk_put (cs := #[.int .i64 t251, .string (⟨#[]⟩ : ByteArray), .string (⟨#[]⟩ : ByteArray), .string (⟨#[]⟩ : ByteArray)]) ?_ 1 _ rfl; (with_reducible repeat (fail)); refine blk_put (cs := #[.int .i64 0, .string (⟨#[]⟩ : ByteArray), .string (⟨#[]⟩ : ByteArray), .string (⟨#[]⟩ : ByteArray)]) ?_ 0 _ rfl; (with_reducible repeat (fail)); exact BK256.out) k_ hk⟩)); (case aO => exact (by (with_reducible repeat (fail)); exact Kd.R_mono (Kd.R_far (p := ⟨gb256, 3, none⟩) (Kd.R_far (p := ⟨gb256, 2, none⟩) (Kd.R_far (p := ⟨gb256, 1, none⟩) (Kd.R_far (p := ⟨gb256, 0, none⟩) (Kd.R_mono HO_9.out (fun k_ hk => (⟨hk, hk.2⟩ : _ ∧ k_ ≠ gb256))) (fun _ hk => hk.2) (.int .i64 t251)) (fun _ hk => hk.2) (.string t252)) (fun _ hk => hk.2) (.string t253)) (fun _ hk => hk.2) (.string t254)) (fun _ hk => ⟨hk.1.1, hk.1.2⟩))); (case aS => exact (below_size (by repeat ((with_reducible first | exact HB.out | refine below_set ?_ GE256.out))))); (case aL => have := LMc49.out; omega); intro v258 w55 ho hb hg hat; rw [← Ny257.out] at ho; have n0_ := Aside0.mk (Kd.V_afterv (ok := (fun k_ => (P0_ k_ ∨ w.heap.size ≤ k_) ∧ some k_ ≠ (.slice (some ad250) t247.length co43 : Value).ownBlock ∧ some k_ ≠ (.slice Ao41 x228000_8.length co41 : Value).ownBlock ∧ some k_ ≠ (u228001 : Value).ownBlock ∧ k_ ≠ gb226 ∧ k_ ≠ gb227 ∧ k_ ≠ gb256)) (by (with_reducible repeat (fail)); exact Kd.V_mono (Kd.V_far (p := ⟨gb256, 3, none⟩) (Kd.V_far (p := ⟨gb256, 2, none⟩) (Kd.V_far (p := ⟨gb256, 1, none⟩) (Kd.V_far (p := ⟨gb256, 0, none⟩) (Kd.V_mono HO_44.out (fun k_ hk => (⟨hk, hk.2⟩ : _ ∧ k_ ≠ gb256))) (fun _ hk => hk.2) (.int .i64 t251)) (fun _ hk => hk.2) (.string t252)) (fun _ hk => hk.2) (.string t253)) (fun _ hk => hk.2) (.string t254)) (fun _ hk => ⟨⟨hk.1.1.1, ⟨hk.1.1.2.2.1, ⟨hk.1.1.2.2.2.1, ⟨hk.1.1.2.2.2.2.1, ⟨hk.1.1.2.2.2.2.2.1, ⟨hk.1.1.2.2.2.2.2.2, hk.1.2⟩⟩⟩⟩⟩⟩, hk.1.1.2.1⟩)) hg hat); have n1_ := Aside0.mk (Kd.R_over' (by (with_reducible repeat (fail)); exact (Kd.R_mono (Kd.R_far (p := ⟨gb256, 3, none⟩) (Kd.R_far (p := ⟨gb256, 2, none⟩) (Kd.R_far (p := ⟨gb256, 1, none⟩) (Kd.R_far (p := ⟨gb256, 0, none⟩) (Kd.R_types HO_55.out BK256.out (by decide)) (fun _ hk => hk.2) (.int .i64 t251)) (fun _ hk => hk.2) (.string t252)) (fun _ hk => hk.2) (.string t253)) (fun _ hk => hk.2) (.string t254)) (fun _ h_ => h_.1))) (Kd.R_typed (by (with_reducible repeat (fail)); exact (Kd.R_mono (Kd.R_far (p := ⟨gb256, 3, none⟩) (Kd.R_far (p := ⟨gb256, 2, none⟩) (Kd.R_far (p := ⟨gb256, 1, none⟩) (Kd.R_far (p := ⟨gb256, 0, none⟩) (Kd.R_mono HO_9.out (fun k_ hk => (⟨hk, hk.2⟩ : _ ∧ k_ ≠ gb256))) (fun _ hk => hk.2) (.int .i64 t251)) (fun _ hk => hk.2) (.string t252)) (fun _ hk => hk.2) (.string t253)) (fun _ hk => hk.2) (.string t254)) (fun _ h_ => h_.1)))) (by decide) hg); have n2_ := Aside0.mk (Kd.R_over' (by (with_reducible repeat (fail)); exact (Kd.R_mono (Kd.R_far (p := ⟨gb256, 3, none⟩) (Kd.R_far (p := ⟨gb256, 2, none⟩) (Kd.R_far (p := ⟨gb256, 1, none⟩) (Kd.R_far (p := ⟨gb256, 0, none⟩) (Kd.R_types HO_228000.out BK256.out (by decide)) (fun _ hk => hk.2) (.int .i64 t251)) (fun _ hk => hk.2) (.string t252)) (fun _ hk => hk.2) (.string t253)) (fun _ hk => hk.2) (.string t254)) (fun _ h_ => h_.1))) (Kd.R_typed (by (with_reducible repeat (fail)); exact (Kd.R_mono (Kd.R_far (p := ⟨gb256, 3, none⟩) (Kd.R_far (p := ⟨gb256, 2, none⟩) (Kd.R_far (p := ⟨gb256, 1, none⟩) (Kd.R_far (p := ⟨gb256, 0, none⟩) (Kd.R_mono HO_9.out (fun k_ hk => (⟨hk, hk.2⟩ : _ ∧ k_ ≠ gb256))) (fun _ hk => hk.2) (.int .i64 t251)) (fun _ hk => hk.2) (.string t252)) (fun _ hk => hk.2) (.string t253)) (fun _ hk => hk.2) (.string t254)) (fun _ h_ => h_.1)))) (by decide) hg); have n3_ := Aside0.mk (Kd.S_after (ok := (fun k_ => (w.heap.size ≤ k_) ∧ k_ ≠ gb256)) (by (with_reducible repeat (fail)); exact Kd.S_mono (Kd.S_far (p := ⟨gb256, 3, none⟩) (Kd.S_far (p := ⟨gb256, 2, none⟩) (Kd.S_far (p := ⟨gb256, 1, none⟩) (Kd.S_far (p := ⟨gb256, 0, none⟩) (Kd.S_mono HO_228001.out (fun k_ hk => (⟨hk, hk.2⟩ : _ ∧ k_ ≠ gb256))) (fun _ hk => hk.2) (.int .i64 t251)) (fun _ hk => hk.2) (.string t252)) (fun _ hk => hk.2) (.string t253)) (fun _ hk => hk.2) (.string t254)) (fun _ hk => ⟨⟨hk.1.1.1, hk.1.2⟩, hk.1.1.2⟩)) hg hat); have n4_ := Aside0.mk (blk_grown (g := gb226) (o := .cells #[.slice none 0 0, .slice none 0 0] 25 (0, 0)) (by (with_reducible repeat (fail)); refine blk_far ?_ NB226_256.out _; (with_reducible repeat (fail)); refine blk_far ?_ NB226_256.out _; (with_reducible repeat (fail)); refine blk_far ?_ NB226_256.out _; (with_reducible repeat (fail)); refine blk_far ?_ NB226_256.out _; (with_reducible repeat (fail)); exact BK226.out) hg (Kd.R_ne HO_9.out BK226.out (by decide))); have n5_ := Aside0.mk (blk_grown (g := gb227) (o := .cells #[.slice Ao41 x228000_8.length co41, u228001] 25 (0, 0)) (by (with_reducible repeat (fail)); refine blk_far ?_ NB227_256.out _; (with_reducible repeat (fail)); refine blk_far ?_ NB227_256.out _; (with_reducible repeat (fail)); refine blk_far ?_ NB227_256.out _; (with_reducible repeat (fail)); refine blk_far ?_ NB227_256.out _; (with_reducible repeat (fail)); exact BK227.out) hg (Kd.R_ne HO_9.out BK227.out (by decide))); have n6_ := Aside0.mk (blk_grown (g := gb256) (o := .cells #[.int .i64 t251, .string t252, .string t253, .string t254] 43 (0, 0)) (by (with_reducible repeat (fail)); refine blk_put (cs := #[.int .i64 t251, .string t252, .string t253, .string (⟨#[]⟩ : ByteArray)]) ?_ 3 _ rfl; (with_reducible repeat (fail)); refine blk_put (cs := #[.int .i64 t251, .string t252, .string (⟨#[]⟩ : ByteArray), .string (⟨#[]⟩ : ByteArray)]) ?_ 2 _ rfl; (with_reducible repeat (fail)); refine blk_put (cs := #[.int .i64 t251, .string (⟨#[]⟩ : ByteArray), .string (⟨#[]⟩ : ByteArray), .string (⟨#[]⟩ : ByteArray)]) ?_ 1 _ rfl; (with_reducible repeat (fail)); refine blk_put (cs := #[.int .i64 0, .string (⟨#[]⟩ : ByteArray), .string (⟨#[]⟩ : ByteArray), .string (⟨#[]⟩ : ByteArray)]) ?_ 0 _ rfl; (with_reducible repeat (fail)); exact BK256.out) hg (Kd.R_away HO_9.out (fun _ hk => hk.2))); have n7_ := Aside0.mk (hb); have n8_ := Aside0.mk (ho); clear HO_44; clear HO_55; clear HO_228000; clear HO_228001; clear BK226; clear BK227; clear BK256; clear HB; clear HO_9; have HO_44 := n0_; have HO_55 := n1_; have HO_228000 := n2_; have HO_228001 := n3_; have BK226 := n4_; have BK227 := n5_; have BK256 := n6_; have HB := n7_; have HO259 := n8_; clear n0_ n1_ n2_ n3_ n4_ n5_ n6_ n7_ n8_; clear ho hb hg hat))
                                  go_roundg k3
                                  case measure => have := HJ8.out; have := HK2.out; have := HK3.out; omega
                                  case rel => exact ⟨(y257), (wrap64 (x57_3 + 1)), (by rfl), H', ⟨by have := HJ8.out; have := HK2.out; have := HK3.out; omega⟩, ⟨by (with_reducible repeat (fail)); exact Kd.R_mono HO259.out (fun _ hk => hk.1)⟩, ⟨by (with_reducible repeat (fail)); exact Kd.V_mono HO_44.out (fun _ hk => ⟨hk.1.1, ⟨hk.2, ⟨hk.1.2.1, ⟨hk.1.2.2.1, ⟨hk.1.2.2.2.1, ⟨hk.1.2.2.2.2.1, hk.1.2.2.2.2.2.1⟩⟩⟩⟩⟩⟩)⟩, ⟨by (with_reducible repeat (fail)); exact HO_55.out⟩, ⟨by (with_reducible repeat (fail)); exact HO_228000.out⟩, ⟨by (with_reducible repeat (fail)); exact Kd.S_mono HO_228001.out (fun _ hk => ⟨hk.1.1, hk.2⟩)⟩, ⟨by (with_reducible repeat (fail)); exact BK226.out⟩, ⟨by (with_reducible repeat (fail)); exact BK227.out⟩, ⟨by repeat ((with_reducible exact HB.out))⟩⟩
                                rw [if_neg c49] at H
                                exact absurd H (by simp)
                              rw [if_neg c48] at H
                              have c48b0 : (t255 == 0) = false := beq_eq_false_iff_ne.mpr c48
                              have c48b1 : (t255 != 0) = true := bne_iff_ne.mpr c48
                              simp only [Option.some.injEq, Prod.mk.injEq] at H
                              obtain ⟨rfl, rfl, rfl⟩ := H
                              have p250 : 0 ≤ (x57_3 : Int) := of_decide_eq_true (by (with_reducible assumption))
                              have q250 : x57_3 < (t247.length : Int) := of_decide_eq_true (by (with_reducible assumption))
                              obtain ⟨ad250, e250, hx250_0⟩ := Kd.at_string (Kd.R_reads' HO_55.out).2.2 x57_3 p250 q250
                              cases e250
                              replace p250 := eq_true p250
                              replace q250 := eq_true q250
                              go_wp2_with (first | ((with_reducible refine gate_callee (f := 37) rfl ?_); refine goesL_ (some 63) rfl rfl Tryd.func37 (by kernel_rfl) rfl #[.string (rdOf ByteArray.empty t247 x57_3)] rfl (by (try simp only [List.map_toArray, List.map_cons, List.map_nil]); rfl) ?_; (with_reducible refine (term_Read.calls k3 (rdOf ByteArray.empty t247 x57_3) t251 t252 t253 t254 t255 _ A47.out).mono ?_); rintro e w56 ⟨rfl, hb⟩; refine ⟨_, rfl, ?_⟩; have n0_ := Aside0.mk (Kd.R_below (by (with_reducible repeat (fail)); exact HO_9.out) hb); have n1_ := Aside0.mk (Kd.V_below (by (with_reducible repeat (fail)); exact HO_44.out) hb); have n2_ := Aside0.mk (Kd.R_below (by (with_reducible repeat (fail)); exact HO_55.out) hb); have n3_ := Aside0.mk (Kd.R_below (by (with_reducible repeat (fail)); exact HO_228000.out) hb); have n4_ := Aside0.mk (Kd.S_below (by (with_reducible repeat (fail)); exact HO_228001.out) hb); have n5_ := Aside0.mk (blk_below (g := gb226) (o := .cells #[.slice none 0 0, .slice none 0 0] 25 (0, 0)) (by (with_reducible repeat (fail)); exact BK226.out) hb); have n6_ := Aside0.mk (blk_below (g := gb227) (o := .cells #[.slice Ao41 x228000_8.length co41, u228001] 25 (0, 0)) (by (with_reducible repeat (fail)); exact BK227.out) hb); have n7_ := Aside0.mk (below_step (by repeat ((with_reducible exact HB.out))) hb); clear HO_9; clear HO_44; clear HO_55; clear HO_228000; clear HO_228001; clear BK226; clear BK227; clear HB; have HO_9 := n0_; have HO_44 := n1_; have HO_55 := n2_; have HO_228000 := n3_; have HO_228001 := n4_; have BK226 := n5_; have BK227 := n6_; have HB := n7_; clear n0_ n1_ n2_ n3_ n4_ n5_ n6_ n7_; (try clear hb)) | ((with_reducible refine gate_dst (N := 12) rfl ?_); refine box_event ?hg (N := 12) ?hd (cs := #[.int .i64 0, .string (⟨#[]⟩ : ByteArray), .string (⟨#[]⟩ : ByteArray), .string (⟨#[]⟩ : ByteArray)]) (t := 43) ?hr ?_; (case hd => rfl); (case hg => rfl); (case hr => (go_simp; done)); intro gb256 hg w57 hbox hb; have n0_ := Aside0.mk (Kd.R_below (Kd.R_elderB (by (with_reducible repeat (fail)); exact HO_9.out) gb256 (Nat.le_of_eq hg.symm)) hb); have n1_ := Aside0.mk (Kd.V_below (Kd.V_elderB (by (with_reducible repeat (fail)); exact HO_44.out) gb256 (Nat.le_of_eq hg.symm)) hb); have n2_ := Aside0.mk (Kd.R_below (by (with_reducible repeat (fail)); exact HO_55.out) hb); have n3_ := Aside0.mk (Kd.R_below (by (with_reducible repeat (fail)); exact HO_228000.out) hb); have n4_ := Aside0.mk (Kd.S_below (Kd.S_elderB (by (with_reducible repeat (fail)); exact HO_228001.out) gb256 (Nat.le_of_eq hg.symm)) hb); have n5_ := Aside0.mk (blk_below (g := gb226) (o := .cells #[.slice none 0 0, .slice none 0 0] 25 (0, 0)) (by (with_reducible repeat (fail)); exact BK226.out) hb); have n6_ := Aside0.mk (blk_below (g := gb227) (o := .cells #[.slice Ao41 x228000_8.length co41, u228001] 25 (0, 0)) (by (with_reducible repeat (fail)); exact BK227.out) hb); have n7_ := Aside0.mk (below_step (by repeat ((with_reducible exact HB.out))) hb); have n8_ := Aside0.mk (hbox); have n9_ := Aside0.mk ((by rw [hg]; exact (below_size (by repeat ((with_reducible exact HB.out)))) : w.heap.size ≤ gb256)); have n10_ := Aside0.mk ((by rw [hg]; exact (below_size (by repeat ((with_reducible exact HB.out)))) : w.heap.size ≤ gb256)); have n11_ := Aside0.mk ((by rw [hg]; exact Nat.ne_of_lt (blk_lt (g := gb226) (o := .cells #[.slice none 0 0, .slice none 0 0] 25 (0, 0)) (by (with_reducible repeat (fail)); exact BK226.out)) : gb226 ≠ gb256)); have n12_ := Aside0.mk ((by rw [hg]; exact Nat.ne_of_gt (blk_lt (g := gb226) (o := .cells #[.slice none 0 0, .slice none 0 0] 25 (0, 0)) (by (with_reducible repeat (fail)); exact BK226.out)) : gb256 ≠ gb226)); have n13_ := Aside0.mk ((by rw [hg]; exact Nat.ne_of_lt (blk_lt (g := gb227) (o := .cells #[.slice Ao41 x228000_8.length co41, u228001] 25 (0, 0)) (by (with_reducible repeat (fail)); exact BK227.out)) : gb227 ≠ gb256)); have n14_ := Aside0.mk ((by rw [hg]; exact Nat.ne_of_gt (blk_lt (g := gb227) (o := .cells #[.slice Ao41 x228000_8.length co41, u228001] 25 (0, 0)) (by (with_reducible repeat (fail)); exact BK227.out)) : gb256 ≠ gb227)); clear HO_9; clear HO_44; clear HO_55; clear HO_228000; clear HO_228001; clear BK226; clear BK227; clear HB; have HO_9 := n0_; have HO_44 := n1_; have HO_55 := n2_; have HO_228000 := n3_; have HO_228001 := n4_; have BK226 := n5_; have BK227 := n6_; have HB := n7_; have BK256 := n8_; have GW256 := n9_; have GE256 := n10_; have NB226_256 := n11_; have NB256_226 := n12_; have NB227_256 := n13_; have NB256_227 := n14_; clear n0_ n1_ n2_ n3_ n4_ n5_ n6_ n7_ n8_ n9_ n10_ n11_ n12_ n13_ n14_; clear hb hbox hg; have hnb58 := NB256_226.out; have hnc58 := NB226_256.out; have hnb59 := NB256_227.out; have hnc59 := NB227_256.out; have hcz60_0 : w57.cell? ⟨gb256, 0, none⟩ = some (.int .i64 0) := (blk_cell BK256.out 0).trans rfl; have hcz60_1 : w57.cell? ⟨gb256, 1, none⟩ = some (.string (⟨#[]⟩ : ByteArray)) := (blk_cell BK256.out 1).trans rfl; have hcz60_2 : w57.cell? ⟨gb256, 2, none⟩ = some (.string (⟨#[]⟩ : ByteArray)) := (blk_cell BK256.out 2).trans rfl; have hcz60_3 : w57.cell? ⟨gb256, 3, none⟩ = some (.string (⟨#[]⟩ : ByteArray)) := (blk_cell BK256.out 3).trans rfl; have hfz60_0 := blk_frozen BK256.out 0; have hfz60_1 := blk_frozen BK256.out 1; have hfz60_2 := blk_frozen BK256.out 2; have hfz60_3 := blk_frozen BK256.out 3; have hnb61 := NB227_226.out; have hnc61 := NB226_227.out; have hcz62_0 : w57.cell? ⟨gb227, 0, none⟩ = some (.slice Ao41 x228000_8.length co41) := (blk_cell BK227.out 0).trans rfl; have hcz62_1 : w57.cell? ⟨gb227, 1, none⟩ = some (u228001) := (blk_cell BK227.out 1).trans rfl; have hfz62_0 := blk_frozen BK227.out 0; have hfz62_1 := blk_frozen BK227.out 1; have hcz63_0 : w57.cell? ⟨gb226, 0, none⟩ = some (.slice none 0 0) := (blk_cell BK226.out 0).trans rfl; have hcz63_1 : w57.cell? ⟨gb226, 1, none⟩ = some (.slice none 0 0) := (blk_cell BK226.out 1).trans rfl; have hfz63_0 := blk_frozen BK226.out 0; have hfz63_1 := blk_frozen BK226.out 1; obtain ⟨Ao64, co64, eo64⟩ := Kd.S_slice HO_228001.out; subst eo64))
                              refine bodyPost_ret (results_ct rfl _ _ gb226 25 #[.slice Ao41 x228000_8.length co41, .slice Ao64 x228001_2.length co64] (0, 0) _ rfl (by (with_reducible repeat (fail)); refine blk_put (cs := #[.slice Ao41 x228000_8.length co41, .slice none 0 0]) ?_ 1 _ rfl; (with_reducible repeat (fail)); refine blk_put (cs := #[.slice none 0 0, .slice none 0 0]) ?_ 0 _ rfl; (with_reducible repeat (fail)); refine blk_far ?_ NB226_256.out _; (with_reducible repeat (fail)); refine blk_far ?_ NB226_256.out _; (with_reducible repeat (fail)); refine blk_far ?_ NB226_256.out _; (with_reducible repeat (fail)); refine blk_far ?_ NB226_256.out _; (with_reducible repeat (fail)); exact BK226.out) Tryd.underlying25 rfl (by kernel_rfl)) rfl ?_
                              exact ⟨_, _, by rfl, by (with_reducible repeat (fail)); exact Kd.R_mono (Kd.R_far (p := ⟨gb226, 1, none⟩) (Kd.R_far (p := ⟨gb226, 0, none⟩) (Kd.R_far (p := ⟨gb256, 3, none⟩) (Kd.R_far (p := ⟨gb256, 2, none⟩) (Kd.R_far (p := ⟨gb256, 1, none⟩) (Kd.R_far (p := ⟨gb256, 0, none⟩) (Kd.R_types (Kd.R_types HO_228000.out BK256.out (by decide)) BK226.out (by decide)) (fun _ hk => hk.1.2) (.int .i64 t251)) (fun _ hk => hk.1.2) (.string t252)) (fun _ hk => hk.1.2) (.string t253)) (fun _ hk => hk.1.2) (.string t254)) (fun _ hk => hk.2) (.slice Ao41 x228000_8.length co41)) (fun _ hk => hk.2) (.slice Ao64 x228001_2.length co64)) (fun _ hk => hk.1.1.1), by (with_reducible repeat (fail)); exact Kd.S_mono (Kd.S_far (p := ⟨gb226, 1, none⟩) (Kd.S_far (p := ⟨gb226, 0, none⟩) (Kd.S_far (p := ⟨gb256, 3, none⟩) (Kd.S_far (p := ⟨gb256, 2, none⟩) (Kd.S_far (p := ⟨gb256, 1, none⟩) (Kd.S_far (p := ⟨gb256, 0, none⟩) (Kd.S_types (Kd.S_mono HO_228001.out (fun k_ hk => (⟨hk, hk.2⟩ : _ ∧ k_ ≠ gb256))) BK226.out (by decide)) (fun _ hk => hk.1.2) (.int .i64 t251)) (fun _ hk => hk.1.2) (.string t252)) (fun _ hk => hk.1.2) (.string t253)) (fun _ hk => hk.1.2) (.string t254)) (fun _ hk => hk.2) (.slice Ao41 x228000_8.length co41)) (fun _ hk => hk.2) (.slice Ao64 x228001_2.length co64)) (fun _ hk => hk.1.1.1.1), by repeat ((with_reducible first | exact HB.out | refine below_set ?_ GE226.out | refine below_set ?_ GE256.out))⟩
                            rw [if_neg c46] at H
                            exact absurd H (by simp)
                          rw [if_neg c45] at H
                          exact absurd H (by simp)
                        rw [if_neg c44] at H
                        have c44b0 : decide (x57_3 < (t247.length : Int)) = false := decide_eq_false c44
                        clear c44
                        by_cases c65 : x228001_2.length < 5864062014805
                        · rw [if_pos c65] at H
                          have LMc65 := Aside0.mk c65
                          clear c65
                          obtain ⟨y260, hy260⟩ : ∃ y_ : List (List (S43)), y_ = (x228001_2 ++ [x9_3]) := ⟨_, rfl⟩
                          replace H : (result_rows.l1 k3 y238 (y238.length : Int) (wrap64 (x46_2 + 1)) x228000_8 y260) = some (r1, r2, r3) := by (rw [hy260]; with_reducible exact H)
                          have Ny260 := Aside0.mk hy260
                          clear hy260
                          have H' := Aside0.mk H
                          clear H
                          have hnb66 := NB227_226.out
                          have hnc66 := NB226_227.out
                          have hcz67_0 : wr.cell? ⟨gb227, 0, none⟩ = some (.slice Ao41 x228000_8.length co41) := (blk_cell BK227.out 0).trans rfl
                          have hcz67_1 : wr.cell? ⟨gb227, 1, none⟩ = some (u228001) := (blk_cell BK227.out 1).trans rfl
                          have hfz67_0 := blk_frozen BK227.out 0
                          have hfz67_1 := blk_frozen BK227.out 1
                          obtain ⟨Ao69, co69, eo69⟩ := Kd.R_slice HO_9.out
                          subst eo69
                          go_wp2_with (((with_reducible refine gate_builtin (b := .append) (xs := #[.tmp 75, .tmp 77]) rfl ?_); at_builtin; refine Kd.S_append (Kd.slice 43 k43) (w0 := w) w.heap.size rfl (.tmp 75) (.tmp 77) 23 40 (.slice none 0 0) 24 rfl Tryd.underlying23 info40 rfl (by decide) (by omega) u228001 x228001_2 x9_3 [.slice Ao69 x9_3.length co69] (fun k_ => (w.heap.size ≤ k_)) (fun k_ => some k_ = (.slice Ao69 x9_3.length co69 : Value).ownBlock) rfl rfl ?aP (fun k_ hk_ => ((Kd.R_mono (ok' := fun k_ => ((fun k_ => (w.heap.size ≤ k_))) k_ ∧ some k_ ≠ (u228001 : Value).ownBlock) (Kd.R_apart' (HO_9.out) (Kd.S_typed HO_228001.out) (by decide)) (fun k_ hk => ⟨hk.1, hk.2⟩))).1 k_ hk_.symm) ?aF ?aO ?aB ?aS ?aL ?_; (case aP => exact Kd.M_row (Kd.R_mono (Kd.R_tight rfl (Kd.R_mono (ok' := fun k_ => ((fun k_ => (w.heap.size ≤ k_))) k_ ∧ some k_ ≠ (u228001 : Value).ownBlock) (Kd.R_apart' (HO_9.out) (Kd.S_typed HO_228001.out) (by decide)) (fun k_ hk => ⟨hk.1, hk.2⟩))) (fun _ h_ => h_))); (case aB => exact (by repeat ((with_reducible exact HB.out)))); (case aF => exact (fun k_ hk => (Nat.le_trans (below_size (by repeat ((with_reducible exact HB.out)))) hk))); (case aO => exact (by (with_reducible repeat (fail)); exact Kd.S_mono HO_228001.out (fun k_ hk => ⟨hk.1, fun e_ => hk.2 e_⟩))); (case aS => exact (below_size (by repeat ((with_reducible exact HB.out))))); (case aL => have := LMc65.out; omega); intro v261 w68 ho hb hg hat; rw [← Ny260.out] at ho; have n0_ := Aside0.mk (Kd.V_afterv (ok := (fun k_ => (P0_ k_ ∨ w.heap.size ≤ k_) ∧ some k_ ≠ (.slice Ao69 x9_3.length co69 : Value).ownBlock ∧ some k_ ≠ (.slice Ao43 t247.length co43 : Value).ownBlock ∧ some k_ ≠ (.slice Ao41 x228000_8.length co41 : Value).ownBlock ∧ k_ ≠ gb226 ∧ k_ ≠ gb227)) (by (with_reducible repeat (fail)); exact Kd.V_mono HO_44.out (fun _ hk => ⟨⟨hk.1, ⟨hk.2.1, ⟨hk.2.2.1, ⟨hk.2.2.2.1, ⟨hk.2.2.2.2.2.1, hk.2.2.2.2.2.2⟩⟩⟩⟩⟩, hk.2.2.2.2.1⟩)) hg hat); have n1_ := Aside0.mk (Kd.R_over' (by (with_reducible repeat (fail)); exact HO_55.out) (Kd.S_typed (by (with_reducible repeat (fail)); exact HO_228001.out)) (by decide) hg); have n2_ := Aside0.mk (Kd.R_over' (by (with_reducible repeat (fail)); exact HO_228000.out) (Kd.S_typed (by (with_reducible repeat (fail)); exact HO_228001.out)) (by decide) hg); have n3_ := Aside0.mk (blk_grown (g := gb226) (o := .cells #[.slice none 0 0, .slice none 0 0] 25 (0, 0)) (by (with_reducible repeat (fail)); exact BK226.out) hg (Kd.S_ne HO_228001.out BK226.out (by decide))); have n4_ := Aside0.mk (blk_grown (g := gb227) (o := .cells #[.slice Ao41 x228000_8.length co41, u228001] 25 (0, 0)) (by (with_reducible repeat (fail)); exact BK227.out) hg (Kd.S_ne HO_228001.out BK227.out (by decide))); have n5_ := Aside0.mk (hb); have n6_ := Aside0.mk (ho); clear HO_44; clear HO_55; clear HO_228000; clear BK226; clear BK227; clear HB; clear HO_228001; clear HO_9; have HO_44 := n0_; have HO_55 := n1_; have HO_228000 := n2_; have BK226 := n3_; have BK227 := n4_; have HB := n5_; have HO262 := n6_; clear n0_ n1_ n2_ n3_ n4_ n5_ n6_; clear ho hb hg hat; obtain ⟨Ao70, co70, eo70⟩ := Kd.S_slice HO262.out; subst eo70; have hcz71_0 : w68.cell? ⟨gb227, 0, none⟩ = some (.slice Ao41 x228000_8.length co41) := (blk_cell BK227.out 0).trans rfl; have hcz71_1 : w68.cell? ⟨gb227, 1, none⟩ = some (u228001) := (blk_cell BK227.out 1).trans rfl; have hfz71_0 := blk_frozen BK227.out 0; have hfz71_1 := blk_frozen BK227.out 1))
                          go_roundg k3
                          case measure => have := HJ8.out; have := HK2.out; have := HK3.out; omega
                          case rel => exact ⟨(wrap64 (x46_2 + 1)), (y260), (.slice Ao70 y260.length co70), (by rfl), H', ⟨by have := HJ8.out; have := HK2.out; have := HK3.out; omega⟩, ⟨by (with_reducible repeat (fail)); exact Kd.V_mono (Kd.V_far (p := ⟨gb227, 1, none⟩) (Kd.V_mono HO_44.out (fun k_ hk => (⟨hk, hk.1.2.2.2.2.2⟩ : _ ∧ k_ ≠ gb227))) (fun _ hk => hk.2) (.slice Ao70 y260.length co70)) (fun _ hk => ⟨hk.1.1.1, ⟨hk.1.1.2.2.2.1, ⟨hk.1.2, ⟨hk.1.1.2.2.2.2.1, hk.1.1.2.2.2.2.2⟩⟩⟩⟩)⟩, ⟨by (with_reducible repeat (fail)); exact Kd.R_mono (Kd.R_far (p := ⟨gb227, 1, none⟩) (Kd.R_types HO_228000.out BK227.out (by decide)) (fun _ hk => hk.2) (.slice Ao70 y260.length co70)) (fun _ hk => hk.1.1)⟩, ⟨by (with_reducible repeat (fail)); exact Kd.S_mono (Kd.S_far (p := ⟨gb227, 1, none⟩) (Kd.S_types HO262.out BK227.out (by decide)) (fun _ hk => hk.2) (.slice Ao70 y260.length co70)) (fun _ hk => hk.1)⟩, ⟨by (with_reducible repeat (fail)); refine blk_far ?_ NB226_227.out _; (with_reducible repeat (fail)); exact BK226.out⟩, ⟨by (with_reducible repeat (fail)); refine blk_put (cs := #[.slice Ao41 x228000_8.length co41, u228001]) ?_ 1 _ rfl; (with_reducible repeat (fail)); exact BK227.out⟩, ⟨by repeat ((with_reducible first | exact HB.out | refine below_set ?_ GE227.out))⟩⟩
                        rw [if_neg c65] at H
                        exact absurd H (by simp)
                  rw [if_neg c35] at H
                  exact absurd H (by simp)
                rw [if_neg c34] at H
                exact absurd H (by simp)
              rw [if_neg c33] at H
              have c33b0 : decide (x46_2 < (y238.length : Int)) = false := decide_eq_false c33
              clear c33
              simp only [Option.some.injEq, Prod.mk.injEq] at H
              obtain ⟨rfl, rfl, rfl⟩ := H
              have hnb72 := NB227_226.out
              have hnc72 := NB226_227.out
              have hcz73_0 : wr.cell? ⟨gb227, 0, none⟩ = some (u228000) := (blk_cell BK227.out 0).trans rfl
              have hcz73_1 : wr.cell? ⟨gb227, 1, none⟩ = some (u228001) := (blk_cell BK227.out 1).trans rfl
              have hfz73_0 := blk_frozen BK227.out 0
              have hfz73_1 := blk_frozen BK227.out 1
              obtain ⟨Ao74, co74, eo74⟩ := Kd.R_slice HO_228000.out
              subst eo74
              have hcz75_0 : wr.cell? ⟨gb226, 0, none⟩ = some (.slice none 0 0) := (blk_cell BK226.out 0).trans rfl
              have hcz75_1 : wr.cell? ⟨gb226, 1, none⟩ = some (.slice none 0 0) := (blk_cell BK226.out 1).trans rfl
              have hfz75_0 := blk_frozen BK226.out 0
              have hfz75_1 := blk_frozen BK226.out 1
              obtain ⟨Ao76, co76, eo76⟩ := Kd.S_slice HO_228001.out
              subst eo76
              go_wp2
              refine bodyPost_ret (results_ct rfl _ _ gb226 25 #[.slice Ao74 x228000_8.length co74, .slice Ao76 x228001_2.length co76] (0, 0) _ rfl (by (with_reducible repeat (fail)); refine blk_put (cs := #[.slice Ao74 x228000_8.length co74, .slice none 0 0]) ?_ 1 _ rfl; (with_reducible repeat (fail)); refine blk_put (cs := #[.slice none 0 0, .slice none 0 0]) ?_ 0 _ rfl; (with_reducible repeat (fail)); exact BK226.out) Tryd.underlying25 rfl (by kernel_rfl)) rfl ?_
              exact ⟨_, _, by rfl, by (with_reducible repeat (fail)); exact Kd.R_mono (Kd.R_far (p := ⟨gb226, 1, none⟩) (Kd.R_far (p := ⟨gb226, 0, none⟩) (Kd.R_types HO_228000.out BK226.out (by decide)) (fun _ hk => hk.2) (.slice Ao74 x228000_8.length co74)) (fun _ hk => hk.2) (.slice Ao76 x228001_2.length co76)) (fun _ hk => hk.1), by (with_reducible repeat (fail)); exact Kd.S_mono (Kd.S_far (p := ⟨gb226, 1, none⟩) (Kd.S_far (p := ⟨gb226, 0, none⟩) (Kd.S_types HO_228001.out BK226.out (by decide)) (fun _ hk => hk.2) (.slice Ao74 x228000_8.length co74)) (fun _ hk => hk.2) (.slice Ao76 x228001_2.length co76)) (fun _ hk => hk.1), by repeat ((with_reducible first | exact HB.out | refine below_set ?_ GE226.out))⟩
        rw [if_neg c31] at H
        exact absurd H (by simp)
  rw [if_neg c8] at H
  exact absurd H (by simp)
end Go.Proofs.YtgabadlneeffkaaDoor.S
