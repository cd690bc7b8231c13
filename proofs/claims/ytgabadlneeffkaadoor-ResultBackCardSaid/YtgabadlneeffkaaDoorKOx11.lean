-- Written by lp.py: a program of this session's over the kit's printer. Not trusted: Lean checks it.
import Derived.Test.YtgabadlneeffkaaDoorKOx0
import Derived.Test.YtgabadlneeffkaaDoorKOx8
import Derived.Test.YtgabadlneeffkaaDoorKOx10
namespace Go.Proofs.YtgabadlneeffkaaDoor.B
open Go.RowKit Go.Proofs.YtgabadlneeffkaaDoorW.PrintWords Go.Proofs.YtgabadlneeffkaaDoorW.PrintLast Go.Proofs.YtgabadlneeffkaaDoorW.PrintMore
attribute [local go_sem] max2_int min2_int max_two min_two max_three min_three max_four min_four
set_option linter.unusedVariables false
set_option linter.unusedSimpArgs false
mutual
def result_rows.j1 : Nat → List ByteArray → List ByteArray → Option (List ByteArray × (List (List (S43))) × Bool)
  | 0, _, _ => none
  | k + 1, x0, x215000 => if 1 ≤ (x0.length : Int) then ((some (x0.drop 1 : List ByteArray)).bind fun y225 => (result_rows.l1 k y225 (y225.length : Int) 0 x215000 ([] : List (List (S43))))) else (none)
def result_rows.l1 : Nat → List ByteArray → Int → Int → List ByteArray → List (List (S43)) → Option (List ByteArray × (List (List (S43))) × Bool)
  | 0, _, _, _, _, _ => none
  | k + 1, x44, x45, x46, x215000, x215001 => if x46 < x45 then (if 0 ≤ x46 then (if x46 < (x44.length : Int) then ((result_split.f (rdOf ByteArray.empty x44 x46) (x215000.length : Int)).bind fun t234 => (result_rows.l2 k (([] : List (S43))) x44 x45 x46 t234 (t234.length : Int) 0 x215000 x215001)) else (none)) else (none)) else (some (x215000, x215001, true))
def result_rows.l2 : Nat → List (S43) → List ByteArray → Int → Int → List ByteArray → Int → Int → List ByteArray → List (List (S43)) → Option (List ByteArray × (List (List (S43))) × Bool)
  | 0, _, _, _, _, _, _, _, _, _ => none
  | k + 1, x9, x44, x45, x46, x55, x56, x57, x215000, x215001 => if x57 < x56 then (if 0 ≤ x57 then (if x57 < (x55.length : Int) then ((term_Read.f k (rdOf ByteArray.empty x55 x57)).bind fun bt238 => (if bt238.2.2.2.2 = 0 then (if x9.length < 2513169434916 then (result_rows.l2 k (x9 ++ [(⟨bt238.1, bt238.2.1, bt238.2.2.1, bt238.2.2.2.1⟩ : S43)]) x44 x45 x46 x55 x56 (wrap64 (x57 + 1)) x215000 x215001) else (none)) else (some (x215000, x215001, false)))) else (none)) else (none)) else (if x215001.length < 5864062014805 then (result_rows.l1 k x44 x45 (wrap64 (x46 + 1)) x215000 (x215001 ++ [x9])) else (none))
def result_rows.l0 : Nat → List ByteArray → List ByteArray → Int → Int → List ByteArray → Option (List ByteArray × (List (List (S43))) × Bool)
  | 0, _, _, _, _, _ => none
  | k + 1, x0, x25, x26, x27, x215000 => if x27 < x26 then (if 0 ≤ x27 then (if x27 < (x25.length : Int) then ((strings_HasPrefix.f (rdOf ByteArray.empty x25 x27) (⟨#[63]⟩ : ByteArray)).bind fun t221 => (if t221 = true then (if 1 ≤ ((rdOf ByteArray.empty x25 x27).size : Int) then (if x215000.length < 8796093022208 then (result_rows.l0 k x0 x25 x26 (wrap64 (x27 + 1)) (x215000 ++ [(rdOf ByteArray.empty x25 x27).extract 1 (rdOf ByteArray.empty x25 x27).size])) else (none)) else (none)) else (some (x215000, ([] : List (List (S43))), false)))) else (none)) else (none)) else (result_rows.j1 k x0 x215000)
end
def result_rows.f (k : Nat) (l0 : List ByteArray) : Option (List ByteArray × (List (List (S43))) × Bool) := if (l0.length : Int) = 0 then (some (([] : List ByteArray), ([] : List (List (S43))), false)) else (if 0 < (l0.length : Int) then (if (rdOf ByteArray.empty l0 0).toList = ([] : List UInt8) then (result_rows.j1 k l0 ([] : List ByteArray)) else ((strings_Split.f (rdOf ByteArray.empty l0 0) (⟨#[9]⟩ : ByteArray)).bind fun t217 => (result_rows.l0 k l0 t217 (t217.length : Int) 0 ([] : List ByteArray)))) else (none))
def result_rows.T10 : Bool × List (List Nat × List Nat) := (true, [([], []), ([0], [0]), ([], []), ([2], [2]), ([3], [3]), ([1, 4], [1, 4]), ([0, 1, 2, 3, 4, 5], []), ([6, 5, 5, 0, 1, 2, 3, 4, 5], [5, 6])])
def result_rows.B10 : List Nat := [0, 1, 0, 4, 12, 31, 63, 127]
theorem result_rows.tab10 : rtab .any (opsOf Tryd.f19 10) = result_rows.T10 := by kernel_rfl
theorem result_rows.bits10 : waitsOk result_rows.T10.2 result_rows.B10 = true := by kernel_rfl
set_option maxHeartbeats 8000000 in
set_option maxRecDepth 100000 in
theorem result_rows.calls (k : Nat) (P0_ : Nat → Prop) (A0 : Option Addr) (c0 : Nat) (l0 : List ByteArray) (r1 : List ByteArray) (r2 : List (List (S43))) (r3 : Bool) (w : World) (hs0 : Kd.V Kd.string 9 w w.heap.size (fun k_ => P0_ k_) (.slice A0 l0.length c0) l0) (hG : Gl w) (h : result_rows.f k l0 = some (r1, r2, r3)) :
    Calls Tryd.prog 19 #[.slice A0 l0.length c0] w fun e w' => ∃ v0_ v1_ : Value, e = .returned (.tuple #[.agg #[v0_, v1_], .bool r3]) ∧ Kd.R Kd.string 9 w' w.heap.size (fun k_ => (w.heap.size ≤ k_)) v0_ r1 ∧ Kd.S (Kd.slice 43 k43) 40 w' w.heap.size (fun k_ => (w.heap.size ≤ k_)) v1_ r2 ∧ Below w.heap.size w w' := by
  have hu25 := Tryd.underlying25
  have hu43 := Tryd.underlying43
  have HGL := Aside0.mk hG
  clear hG
  have HO0 := Aside0.mk (show Kd.V Kd.string 9 w w.heap.size (fun k_ => (P0_ k_ ∨ w.heap.size ≤ k_)) (.slice A0 l0.length c0) l0 from Kd.V_mono hs0 (fun k_ hk => .inl hk))
  have HB := Aside0.mk (Below.refl w.heap.size w)
  have H : (if (l0.length : Int) = 0 then (some (([] : List ByteArray), ([] : List (List (S43))), false)) else (if 0 < (l0.length : Int) then (if (rdOf ByteArray.empty l0 0).toList = ([] : List UInt8) then (result_rows.j1 k l0 ([] : List ByteArray)) else ((strings_Split.f (rdOf ByteArray.empty l0 0) (⟨#[9]⟩ : ByteArray)).bind fun t217 => (result_rows.l0 k l0 t217 (t217.length : Int) 0 ([] : List ByteArray)))) else (none))) = some (r1, r2, r3) := h
  clear h
  by_cases c2 : (l0.length : Int) = 0
  · rw [if_pos c2] at H
    have c2b0 : ((l0.length : Int) == 0) = true := beq_iff_eq.mpr c2
    have c2b1 : ((l0.length : Int) != 0) = false := bne_eq_false_iff_eq.mpr c2
    clear c2
    simp only [Option.some.injEq, Prod.mk.injEq] at H
    obtain ⟨rfl, rfl, rfl⟩ := H
    go_enter Tryd.func19, Tryd.ntmps19
    go_wp2_with (first | ((with_reducible refine gate_dst (N := 2) rfl ?_); refine box_event ?hg (N := 2) ?hd (cs := #[.slice none 0 0, .slice none 0 0]) (t := 25) ?hr ?_; (case hd => rfl); (case hg => rfl); (case hr => (go_simp; done)); intro gb213 hg w3 hbox hb; have n0_ := Aside0.mk (Kd.V_below (Kd.V_elderB (by (with_reducible repeat (fail)); exact HO0.out) gb213 (Nat.le_of_eq hg.symm)) hb); have n1_ := Aside0.mk (below_step (by repeat ((with_reducible exact HB.out))) hb); have n2_ := Aside0.mk (hbox); have n3_ := Aside0.mk ((by rw [hg]; exact (below_size (by repeat ((with_reducible exact HB.out)))) : w.heap.size ≤ gb213)); have n4_ := Aside0.mk ((by rw [hg]; exact (below_size (by repeat ((with_reducible exact HB.out)))) : w.heap.size ≤ gb213)); clear HO0; clear HB; have HO0 := n0_; have HB := n1_; have BK213 := n2_; have GW213 := n3_; have GE213 := n4_; clear n0_ n1_ n2_ n3_ n4_; clear hb hbox hg) | ((with_reducible refine gate_dst (N := 4) rfl ?_); refine box_event ?hg (N := 4) ?hd (cs := #[.slice none 0 0, .slice none 0 0]) (t := 25) ?hr ?_; (case hd => rfl); (case hg => rfl); (case hr => (go_simp; done)); intro gb214 hg w4 hbox hb; have n0_ := Aside0.mk (Kd.V_below (Kd.V_elderB (by (with_reducible repeat (fail)); exact HO0.out) gb214 (Nat.le_of_eq hg.symm)) hb); have n1_ := Aside0.mk (blk_below (g := gb213) (o := .cells #[.slice none 0 0, .slice none 0 0] 25 (0, 0)) (by (with_reducible repeat (fail)); exact BK213.out) hb); have n2_ := Aside0.mk (below_step (by repeat ((with_reducible exact HB.out))) hb); have n3_ := Aside0.mk (hbox); have n4_ := Aside0.mk ((by rw [hg]; exact (below_size (by repeat ((with_reducible exact HB.out)))) : w.heap.size ≤ gb214)); have n5_ := Aside0.mk ((by rw [hg]; exact (below_size (by repeat ((with_reducible exact HB.out)))) : w.heap.size ≤ gb214)); have n6_ := Aside0.mk ((by rw [hg]; exact Nat.ne_of_lt (blk_lt (g := gb213) (o := .cells #[.slice none 0 0, .slice none 0 0] 25 (0, 0)) (by (with_reducible repeat (fail)); exact BK213.out)) : gb213 ≠ gb214)); have n7_ := Aside0.mk ((by rw [hg]; exact Nat.ne_of_gt (blk_lt (g := gb213) (o := .cells #[.slice none 0 0, .slice none 0 0] 25 (0, 0)) (by (with_reducible repeat (fail)); exact BK213.out)) : gb214 ≠ gb213)); clear HO0; clear BK213; clear HB; have HO0 := n0_; have BK213 := n1_; have HB := n2_; have BK214 := n3_; have GW214 := n4_; have GE214 := n5_; have NB213_214 := n6_; have NB214_213 := n7_; clear n0_ n1_ n2_ n3_ n4_ n5_ n6_ n7_; clear hb hbox hg; have hnb5 := NB214_213.out; have hnc5 := NB213_214.out; have hcz6_0 : w4.cell? ⟨gb214, 0, none⟩ = some (.slice none 0 0) := (blk_cell BK214.out 0).trans rfl; have hcz6_1 : w4.cell? ⟨gb214, 1, none⟩ = some (.slice none 0 0) := (blk_cell BK214.out 1).trans rfl; have hfz6_0 := blk_frozen BK214.out 0; have hfz6_1 := blk_frozen BK214.out 1; have hcz7_0 : w4.cell? ⟨gb213, 0, none⟩ = some (.slice none 0 0) := (blk_cell BK213.out 0).trans rfl; have hcz7_1 : w4.cell? ⟨gb213, 1, none⟩ = some (.slice none 0 0) := (blk_cell BK213.out 1).trans rfl; have hfz7_0 := blk_frozen BK213.out 0; have hfz7_1 := blk_frozen BK213.out 1))
    refine bodyPost_ret (results_ct rfl _ _ gb213 25 #[.slice none 0 0, .slice none 0 0] (0, 0) _ rfl (by (with_reducible repeat (fail)); refine blk_put (cs := #[.slice none 0 0, .slice none 0 0]) ?_ 1 _ rfl; (with_reducible repeat (fail)); refine blk_put (cs := #[.slice none 0 0, .slice none 0 0]) ?_ 0 _ rfl; (with_reducible repeat (fail)); exact BK213.out) Tryd.underlying25 rfl (by kernel_rfl)) rfl ?_
    exact ⟨_, _, by rfl, by exact Kd.R_nil _ _ _ _ _, by exact Kd.S_nil _ _ _ _ _, by repeat ((with_reducible first | exact HB.out | refine below_set ?_ GE213.out))⟩
  rw [if_neg c2] at H
  have c2b0 : ((l0.length : Int) == 0) = false := beq_eq_false_iff_ne.mpr c2
  have c2b1 : ((l0.length : Int) != 0) = true := bne_iff_ne.mpr c2
  have c2b2 : ¬ (l0 = []) := fun h_ => c2 (by rw [h_]; rfl)
  by_cases c8 : 0 < (l0.length : Int)
  · rw [if_pos c8] at H
    have c8b0 : decide (0 < (l0.length : Int)) = true := decide_eq_true c8
    have c8b1 : decide (0 < l0.length) = true := decide_eq_true (by omega)
    clear c8
    have HC9 := Aside0.mk H
    clear H
    go_enter Tryd.func19, Tryd.ntmps19
    go_upto_if 21 with (first | ((with_reducible refine gate_dst (N := 2) rfl ?_); refine box_event ?hg (N := 2) ?hd (cs := #[.slice none 0 0, .slice none 0 0]) (t := 25) ?hr ?_; (case hd => rfl); (case hg => rfl); (case hr => (go_simp; done)); intro gb213 hg w10 hbox hb; have n0_ := Aside0.mk (Kd.V_below (Kd.V_elderB (by (with_reducible repeat (fail)); exact HO0.out) gb213 (Nat.le_of_eq hg.symm)) hb); have n1_ := Aside0.mk (below_step (by repeat ((with_reducible exact HB.out))) hb); have n2_ := Aside0.mk (hbox); have n3_ := Aside0.mk ((by rw [hg]; exact (below_size (by repeat ((with_reducible exact HB.out)))) : w.heap.size ≤ gb213)); have n4_ := Aside0.mk ((by rw [hg]; exact (below_size (by repeat ((with_reducible exact HB.out)))) : w.heap.size ≤ gb213)); clear HO0; clear HB; have HO0 := n0_; have HB := n1_; have BK213 := n2_; have GW213 := n3_; have GE213 := n4_; clear n0_ n1_ n2_ n3_ n4_; clear hb hbox hg) | ((with_reducible refine gate_dst (N := 4) rfl ?_); refine box_event ?hg (N := 4) ?hd (cs := #[.slice none 0 0, .slice none 0 0]) (t := 25) ?hr ?_; (case hd => rfl); (case hg => rfl); (case hr => (go_simp; done)); intro gb214 hg w11 hbox hb; have n0_ := Aside0.mk (Kd.V_below (Kd.V_elderB (by (with_reducible repeat (fail)); exact HO0.out) gb214 (Nat.le_of_eq hg.symm)) hb); have n1_ := Aside0.mk (blk_below (g := gb213) (o := .cells #[.slice none 0 0, .slice none 0 0] 25 (0, 0)) (by (with_reducible repeat (fail)); exact BK213.out) hb); have n2_ := Aside0.mk (below_step (by repeat ((with_reducible exact HB.out))) hb); have n3_ := Aside0.mk (hbox); have n4_ := Aside0.mk ((by rw [hg]; exact (below_size (by repeat ((with_reducible exact HB.out)))) : w.heap.size ≤ gb214)); have n5_ := Aside0.mk ((by rw [hg]; exact (below_size (by repeat ((with_reducible exact HB.out)))) : w.heap.size ≤ gb214)); have n6_ := Aside0.mk ((by rw [hg]; exact Nat.ne_of_lt (blk_lt (g := gb213) (o := .cells #[.slice none 0 0, .slice none 0 0] 25 (0, 0)) (by (with_reducible repeat (fail)); exact BK213.out)) : gb213 ≠ gb214)); have n7_ := Aside0.mk ((by rw [hg]; exact Nat.ne_of_gt (blk_lt (g := gb213) (o := .cells #[.slice none 0 0, .slice none 0 0] 25 (0, 0)) (by (with_reducible repeat (fail)); exact BK213.out)) : gb214 ≠ gb213)); clear HO0; clear BK213; clear HB; have HO0 := n0_; have BK213 := n1_; have HB := n2_; have BK214 := n3_; have GW214 := n4_; have GE214 := n5_; have NB213_214 := n6_; have NB214_213 := n7_; clear n0_ n1_ n2_ n3_ n4_ n5_ n6_ n7_; clear hb hbox hg; have p215 : 0 ≤ (0 : Int) := (by omega); have q215 : 0 < (l0.length : Int) := of_decide_eq_true (by (with_reducible assumption)); obtain ⟨ad215, e215, hx215_0⟩ := Kd.at_string (Kd.V_reads' HO0.out).2.2 0 p215 q215; cases e215; have qi215 : (0 < l0.length) = True := eq_true (by omega); (try rw [show ((0 : Int)).toNat = 0 from rfl] at hx215_0); (try rw [Addr.add_zero'] at hx215_0); replace p215 := eq_true p215; replace q215 := eq_true q215))
    go_cut [] (fun wc => ∃ (kq : Nat) (x215000_8 : List ByteArray) (u215000 : Value), Aside0 (result_rows.j1 kq l0 x215000_8 = some (r1, r2, r3)) ∧ Aside0 (kq ≤ k) ∧ Aside0 (Kd.V Kd.string 9 wc w.heap.size (fun k_ => (P0_ k_ ∨ w.heap.size ≤ k_) ∧ some k_ ≠ (u215000 : Value).ownBlock ∧ k_ ≠ gb213 ∧ k_ ≠ gb214) (.slice (some ad215) l0.length c0) l0) ∧ Aside0 (Kd.R Kd.string 9 wc w.heap.size (fun k_ => (w.heap.size ≤ k_)) u215000 x215000_8) ∧ Aside0 (wc.heap[gb213]? = some (.cells #[(.slice none 0 0), (.slice none 0 0)] 25 (0, 0))) ∧ Aside0 (wc.heap[gb214]? = some (.cells #[u215000, (.slice none 0 0)] 25 (0, 0))) ∧ Aside0 (Below w.heap.size w wc))
    case first =>
      have H := HC9.out
      clear HC9
      by_cases c12 : (rdOf ByteArray.empty l0 0).toList = ([] : List UInt8)
      · rw [if_pos c12] at H
        have c12b0 : ((rdOf ByteArray.empty l0 0).toList == ([] : List UInt8)) = true := beq_iff_eq.mpr c12
        (try (have c12b0e : (rdOf ByteArray.empty l0 0).toList.isEmpty = true := by simpa using c12))
        (try (have c12b0f : (!(rdOf ByteArray.empty l0 0).toList.isEmpty) = false := by simpa using c12))
        have c12b1 : ((rdOf ByteArray.empty l0 0).toList != ([] : List UInt8)) = false := bne_eq_false_iff_eq.mpr c12
        clear c12
        have H' := Aside0.mk H
        clear H
        (try simp only [c12b0e, Bool.not_true, Bool.not_false])
        go_wp2
        go_meet
        case rel => exact ⟨_, (([] : List ByteArray)), (.slice none 0 0), H', ⟨by omega⟩, ⟨by (with_reducible repeat (fail)); exact Kd.V_mono HO0.out (fun _ hk => ⟨hk.1.1, ⟨(by simp [Value.ownBlock]), ⟨hk.1.2, hk.2⟩⟩⟩)⟩, ⟨by exact Kd.R_nil _ _ _ _ _⟩, ⟨by (with_reducible repeat (fail)); exact BK213.out⟩, ⟨by (with_reducible repeat (fail)); exact BK214.out⟩, ⟨by repeat ((with_reducible exact HB.out))⟩⟩
      rw [if_neg c12] at H
      have c12b0 : ((rdOf ByteArray.empty l0 0).toList == ([] : List UInt8)) = false := beq_eq_false_iff_ne.mpr c12
      (try (have c12b0e : (rdOf ByteArray.empty l0 0).toList.isEmpty = false := by simpa using c12))
      (try (have c12b0f : (!(rdOf ByteArray.empty l0 0).toList.isEmpty) = true := by simpa using c12))
      have c12b1 : ((rdOf ByteArray.empty l0 0).toList != ([] : List UInt8)) = true := bne_iff_ne.mpr c12
      replace H := Option.bind_eq_some_iff.mp H
      obtain ⟨t217, A130, H⟩ := H
      replace H : (result_rows.l0 k l0 t217 (t217.length : Int) 0 ([] : List ByteArray)) = some (r1, r2, r3) := H
      have A13 := Aside0.mk A130
      clear A130
      have H' := Aside0.mk H
      clear H
      (try simp only [c12b0e, Bool.not_true, Bool.not_false])
      have p216 : 0 ≤ (0 : Int) := (by omega)
      have q216 : 0 < (l0.length : Int) := of_decide_eq_true (by (with_reducible assumption))
      obtain ⟨ad216, e216, hx216_0⟩ := Kd.at_string (Kd.V_reads' HO0.out).2.2 0 p216 q216
      obtain rfl : ad215 = ad216 := (by injection e216)
      have qi216 : (0 < l0.length) = True := eq_true (by omega)
      (try rw [show ((0 : Int)).toNat = 0 from rfl] at hx216_0)
      (try rw [Addr.add_zero'] at hx216_0)
      replace p216 := eq_true p216
      replace q216 := eq_true q216
      go_wp2_with (((with_reducible refine gate_callee (f := 17) rfl ?_); refine goesL_ (some 25) rfl rfl Tryd.func17 (by kernel_rfl) rfl #[.string (rdOf ByteArray.empty l0 0), .string (⟨#[9]⟩ : ByteArray)] rfl (by (try simp only [List.map_toArray, List.map_cons, List.map_nil]); rfl) ?_; (with_reducible refine (strings_Split.calls (rdOf ByteArray.empty l0 0) (⟨#[9]⟩ : ByteArray) t217 _ (Gl.below HGL.out (by repeat ((with_reducible exact HB.out)))) A13.out).mono ?_); rintro e w14 ⟨v218, rfl, ho0, hb⟩; refine ⟨_, rfl, ?_⟩; have n0_ := Aside0.mk (Kd.V_elder' (by (with_reducible repeat (fail)); exact HO0.out) (Kd.R_base ho0) hb); have n1_ := Aside0.mk (Kd.R_lower (Kd.R_newM (M := fun k_ => (w.heap.size ≤ k_)) ho0 (below_size (by repeat ((with_reducible exact HB.out)))) (fun k_ h_ => h_)) (below_size (by repeat ((with_reducible exact HB.out))))); have n2_ := Aside0.mk (blk_below (g := gb213) (o := .cells #[.slice none 0 0, .slice none 0 0] 25 (0, 0)) (by (with_reducible repeat (fail)); exact BK213.out) hb); have n3_ := Aside0.mk (blk_below (g := gb214) (o := .cells #[.slice none 0 0, .slice none 0 0] 25 (0, 0)) (by (with_reducible repeat (fail)); exact BK214.out) hb); have n4_ := Aside0.mk (below_step (by repeat ((with_reducible exact HB.out))) hb); clear HO0; clear BK213; clear BK214; clear HB; have HO0 := n0_; have HO219 := n1_; have BK213 := n2_; have BK214 := n3_; have HB := n4_; clear n0_ n1_ n2_ n3_ n4_; (try clear hb); (try clear ho0); obtain ⟨Ao15, co15, eo15⟩ := Kd.R_slice HO219.out; subst eo15))
      go_loopg [27] k (fun kq v27 w' => ∃ (x27_1 : Int) (x215000_1 : List ByteArray) (u215000 : Value), v27 = .int .i64 x27_1 ∧ Aside0 (result_rows.l0 kq l0 t217 (t217.length : Int) x27_1 x215000_1 = some (r1, r2, r3)) ∧ Aside0 (kq ≤ k) ∧ Aside0 (Kd.V Kd.string 9 w' w.heap.size (fun k_ => (P0_ k_ ∨ w.heap.size ≤ k_) ∧ some k_ ≠ ((.slice Ao15 t217.length co15) : Value).ownBlock ∧ some k_ ≠ (u215000 : Value).ownBlock ∧ k_ ≠ gb213 ∧ k_ ≠ gb214) (.slice (some ad215) l0.length c0) l0) ∧ Aside0 (Kd.R Kd.string 9 w' w.heap.size (fun k_ => (w.heap.size ≤ k_) ∧ some k_ ≠ (u215000 : Value).ownBlock) (.slice Ao15 t217.length co15) t217) ∧ Aside0 (Kd.R Kd.string 9 w' w.heap.size (fun k_ => (w.heap.size ≤ k_) ∧ some k_ ≠ ((.slice Ao15 t217.length co15) : Value).ownBlock) u215000 x215000_1) ∧ Aside0 (w'.heap[gb213]? = some (.cells #[(.slice none 0 0), (.slice none 0 0)] 25 (0, 0))) ∧ Aside0 (w'.heap[gb214]? = some (.cells #[u215000, (.slice none 0 0)] 25 (0, 0))) ∧ Aside0 (Below w.heap.size w w'))
      case atStart => exact ⟨(0), (([] : List ByteArray)), (.slice none 0 0), (by rfl), H', ⟨Nat.le_refl _⟩, ⟨by (with_reducible repeat (fail)); exact Kd.V_mono HO0.out (fun _ hk => ⟨hk.1.1.1, ⟨hk.2, ⟨(by simp [Value.ownBlock]), ⟨hk.1.1.2, hk.1.2⟩⟩⟩⟩)⟩, ⟨by (with_reducible repeat (fail)); exact Kd.R_mono HO219.out (fun _ hk => ⟨hk.1, (by simp [Value.ownBlock])⟩)⟩, ⟨by exact Kd.R_nil _ _ _ _ _⟩, ⟨by (with_reducible repeat (fail)); exact BK213.out⟩, ⟨by (with_reducible repeat (fail)); exact BK214.out⟩, ⟨by repeat ((with_reducible exact HB.out))⟩⟩
      case round =>
        clear H'
        try clear c2
        try clear c2b0
        try clear c2b1
        try clear c2b2
        try clear c8b0
        try clear c8b1
        try clear c12
        try clear c12b0
        try clear c12b1
        try clear hx215_0
        try clear hx216_0
        try clear p215
        try clear p216
        try clear q215
        try clear q216
        obtain ⟨x27_1, x215000_1, u215000, rfl, HA, HK1, HO_0, HO_25, HO_215000, BK213, BK214, HB⟩ := hrel
        cases gk with
        | zero => exact absurd HA.out (by simp [result_rows.l0])
        | succ k1 =>
          have H := HA.out
          clear HA
          simp only [result_rows.l0] at H
          by_cases c16 : x27_1 < (t217.length : Int)
          · rw [if_pos c16] at H
            have c16b0 : decide (x27_1 < (t217.length : Int)) = true := decide_eq_true c16
            clear c16
            by_cases c17 : 0 ≤ x27_1
            · rw [if_pos c17] at H
              have c17b0 : decide (0 ≤ x27_1) = true := decide_eq_true c17
              clear c17
              by_cases c18 : x27_1 < (t217.length : Int)
              · rw [if_pos c18] at H
                have c18b0 : decide (x27_1 < (t217.length : Int)) = true := decide_eq_true c18
                clear c18
                replace H := Option.bind_eq_some_iff.mp H
                obtain ⟨t221, A190, H⟩ := H
                replace H : (if t221 = true then (if 1 ≤ ((rdOf ByteArray.empty t217 x27_1).size : Int) then (if x215000_1.length < 8796093022208 then (result_rows.l0 k1 l0 t217 (t217.length : Int) (wrap64 (x27_1 + 1)) (x215000_1 ++ [(rdOf ByteArray.empty t217 x27_1).extract 1 (rdOf ByteArray.empty t217 x27_1).size])) else (none)) else (none)) else (some (x215000_1, ([] : List (List (S43))), false))) = some (r1, r2, r3) := H
                have A19 := Aside0.mk A190
                clear A190
                by_cases c20 : t221 = true
                · subst c20
                  have H1 : (if 1 ≤ ((rdOf ByteArray.empty t217 x27_1).size : Int) then (if x215000_1.length < 8796093022208 then (result_rows.l0 k1 l0 t217 (t217.length : Int) (wrap64 (x27_1 + 1)) (x215000_1 ++ [(rdOf ByteArray.empty t217 x27_1).extract 1 (rdOf ByteArray.empty t217 x27_1).size])) else (none)) else (none)) = some (r1, r2, r3) := by rw [if_pos rfl] at H; exact H
                  clear H
                  have H := H1
                  clear H1
                  by_cases c21 : 1 ≤ ((rdOf ByteArray.empty t217 x27_1).size : Int)
                  · rw [if_pos c21] at H
                    have c21b0 := eq_true c21
                    have c21b1 : decide (1 ≤ ((rdOf ByteArray.empty t217 x27_1).size : Int)) = true := decide_eq_true c21
                    clear c21
                    by_cases c22 : x215000_1.length < 8796093022208
                    · rw [if_pos c22] at H
                      have LMc22 := Aside0.mk c22
                      clear c22
                      obtain ⟨y222, hy222⟩ : ∃ y_ : List ByteArray, y_ = (x215000_1 ++ [(rdOf ByteArray.empty t217 x27_1).extract 1 (rdOf ByteArray.empty t217 x27_1).size]) := ⟨_, rfl⟩
                      replace H : (result_rows.l0 k1 l0 t217 (t217.length : Int) (wrap64 (x27_1 + 1)) y222) = some (r1, r2, r3) := by (rw [hy222]; with_reducible exact H)
                      have Ny222 := Aside0.mk hy222
                      clear hy222
                      have H' := Aside0.mk H
                      clear H
                      have p220 : 0 ≤ (x27_1 : Int) := of_decide_eq_true (by (with_reducible assumption))
                      have q220 : x27_1 < (t217.length : Int) := of_decide_eq_true (by (with_reducible assumption))
                      obtain ⟨ad220, e220, hx220_0⟩ := Kd.at_string (Kd.R_reads' HO_25.out).2.2 x27_1 p220 q220
                      cases e220
                      replace p220 := eq_true p220
                      replace q220 := eq_true q220
                      try go_wp2_with (((with_reducible refine gate_callee (f := 20) rfl ?_); refine goesL_ (some 32) rfl rfl Tryd.func20 (by kernel_rfl) rfl #[.string (rdOf ByteArray.empty t217 x27_1), .string (⟨#[63]⟩ : ByteArray)] rfl (by (try simp only [List.map_toArray, List.map_cons, List.map_nil]); rfl) ?_; (with_reducible refine (strings_HasPrefix.calls (rdOf ByteArray.empty t217 x27_1) (⟨#[63]⟩ : ByteArray) true _ A19.out).mono ?_); rintro e w' ⟨rfl, ⟨nd, rfl⟩⟩; refine ⟨_, rfl, ?_⟩; (try (rw [drewN_self wr]; generalize hq_ : World.drewN wr _ = wr; have n0_ : Aside0 (Kd.V Kd.string 9 wr w.heap.size (fun k_ => (P0_ k_ ∨ w.heap.size ≤ k_) ∧ some k_ ≠ (.slice (some ad220) t217.length co15 : Value).ownBlock ∧ some k_ ≠ (u215000 : Value).ownBlock ∧ k_ ≠ gb213 ∧ k_ ≠ gb214) (.slice (some ad215) l0.length c0) l0) := ⟨by rw [← hq_]; exact (by (with_reducible repeat (apply Kd.V_drewN)); exact HO_0.out)⟩; have n1_ : Aside0 (Kd.R Kd.string 9 wr w.heap.size (fun k_ => (w.heap.size ≤ k_) ∧ some k_ ≠ (u215000 : Value).ownBlock) (.slice (some ad220) t217.length co15) t217) := ⟨by rw [← hq_]; exact (by (with_reducible repeat (apply Kd.R_drewN)); exact HO_25.out)⟩; have n2_ : Aside0 (Kd.R Kd.string 9 wr w.heap.size (fun k_ => (w.heap.size ≤ k_) ∧ some k_ ≠ (.slice (some ad220) t217.length co15 : Value).ownBlock) u215000 x215000_1) := ⟨by rw [← hq_]; exact (by (with_reducible repeat (apply Kd.R_drewN)); exact HO_215000.out)⟩; have n3_ : Aside0 (wr.heap[gb213]? = some (.cells #[.slice none 0 0, .slice none 0 0] 25 (0, 0))) := ⟨by rw [← hq_]; exact (by (with_reducible repeat (refine blk_drewN ?_ _)); exact BK213.out)⟩; have n4_ : Aside0 (wr.heap[gb214]? = some (.cells #[u215000, .slice none 0 0] 25 (0, 0))) := ⟨by rw [← hq_]; exact (by (with_reducible repeat (refine blk_drewN ?_ _)); exact BK214.out)⟩; have n5_ : Aside0 (Below w.heap.size w wr) := ⟨by rw [← hq_]; exact (by repeat ((with_reducible first | exact HB.out | apply pw_below_drewN)))⟩; clear HO_0 HO_25 HO_215000 BK213 BK214 HB hq_; have HO_0 := n0_; have HO_25 := n1_; have HO_215000 := n2_; have BK213 := n3_; have BK214 := n4_; have HB := n5_; clear n0_ n1_ n2_ n3_ n4_ n5_))))
                      have n0_ := Aside0.mk (Kd.V_drew HO_0.out)
                      have n1_ := Aside0.mk (Kd.R_drew HO_25.out)
                      have n2_ := Aside0.mk (Kd.R_drew HO_215000.out)
                      have n3_ := Aside0.mk (blk_drew BK213.out)
                      have n4_ := Aside0.mk (blk_drew BK214.out)
                      have n5_ := Aside0.mk (below_drew1 HB.out)
                      clear HO_0
                      clear HO_25
                      clear HO_215000
                      clear BK213
                      clear BK214
                      clear HB
                      have HO_0 := n0_
                      have HO_25 := n1_
                      have HO_215000 := n2_
                      have BK213 := n3_
                      have BK214 := n4_
                      have HB := n5_
                      clear n0_ n1_ n2_ n3_ n4_ n5_
                      refine start_ (n := 8) (S := fun w' => w'.cell? ⟨gb214, 0, none⟩ = some (u215000) ∧ w'.cell? ⟨gb214, 1, none⟩ = some (.slice none 0 0)) (ds := [7]) #[false, false, false, false, false, false, false, false] (by kernel_rfl) rfl rfl ⟨(blk_cell BK214.out 0).trans rfl, (blk_cell BK214.out 1).trans rfl⟩ (fun hHeld => ?_); refine with_tabW result_rows.tab10 result_rows.bits10 (fun HT_ HW_ => ?_)
                      generalize wr.drew = w23 at HO_0 HO_25 HO_215000 BK213 BK214 HB hHeld ⊢
                      refine pure_ (i := 0) (N := some 35) (v := ?_) (a' := ?_) #[true, false, false, false, false, false, false, false] rfl rfl (any_of HT_.out (by kernel_rfl)) (fun _ _ _ h => h) (Or.inl ⟨by rfl, ?_⟩) ?_ ?_
                      rotate_left
                      · intro w'
                        go_simp
                        with_reducible rfl
                      rotate_left
                      · simp only [Act.put, List.setIfInBounds_toArray, List.set_cons_zero, List.set_cons_succ, i64_w, i32_w]
                        rfl
                      refine pure_ (i := 2) (N := some 37) (v := ?_) (a' := ?_) #[true, false, true, false, false, false, false, false] rfl rfl (any_of HT_.out (by kernel_rfl)) (fun _ _ _ h => h) (Or.inl ⟨by rfl, ?_⟩) ?_ ?_
                      rotate_left
                      · intro w'
                        go_simp
                        with_reducible rfl
                      rotate_left
                      · simp only [Act.put, List.setIfInBounds_toArray, List.set_cons_zero, List.set_cons_succ, i64_w, i32_w]
                        rfl
                      refine pure_ (i := 3) (N := some 38) (v := ?_) (a' := ?_) #[true, false, true, true, false, false, false, false] rfl rfl (any_of HT_.out (by kernel_rfl)) (fun _ _ _ h => h) (Or.inl ⟨by rfl, ?_⟩) ?_ ?_
                      rotate_left
                      · intro w'
                        go_simp
                        with_reducible rfl
                      rotate_left
                      · simp only [Act.put, List.setIfInBounds_toArray, List.set_cons_zero, List.set_cons_succ, i64_w, i32_w]
                        rfl
                      refine take_ (i := 1) (N := some 36) (v := ?_) (a' := ?_) #[true, true, true, true, false, false, false, false] rfl rfl (take_ofW HT_.out HW_.out (by kernel_rfl)) (fun _ _ _ h => h) (Or.inl ⟨by rfl, ?_⟩) hHeld ?_ ?_
                      rotate_left
                      · rintro w' ⟨s0, s1⟩
                        go_simp
                        with_reducible rfl
                      rotate_left
                      · simp only [Act.put, List.setIfInBounds_toArray, List.set_cons_zero, List.set_cons_succ, i64_w, i32_w]
                        rfl
                      refine one_ (i := 4) (N := some 39) #[true, true, true, true, true, false, false, false] rfl rfl (one_of HT_.out (by kernel_rfl)) (by decide) (fun K hK => ?_)
                      refine value_ (w1 := ?_) (v := ?_) (by rfl) rfl ?_ ?_
                      rotate_left 2
                      · go_simp
                        constructor
                        · rfl
                        rfl
                      refine hK.out _ _ ⟨(blk_cell (blk_alloc BK214.out _) 0).trans rfl, (blk_cell (blk_alloc BK214.out _) 1).trans rfl⟩ (fun hHeld => ?_)
                      clear hK K
                      refine norm_ (a' := ?_) ?_ ?_
                      rotate_left
                      · show Act.put _ (some 39) _ = _
                        simp only [Act.put, List.setIfInBounds_toArray, List.set_cons_zero, List.set_cons_succ, i64_w, i32_w]
                        rfl
                      refine one_ (i := 5) (N := some 40) #[true, true, true, true, true, true, false, false] rfl rfl (one_of HT_.out (by kernel_rfl)) (by decide) (fun K hK => ?_)
                      refine Kd.R_append_step Kd.string (w0 := w) w.heap.size (by rfl) (.tmp 36) (.tmp 39) 22 9 (.string ⟨#[]⟩) 16 rfl Tryd.underlying22 info9 rfl (by decide) (by omega) u215000 x215000_1 ((rdOf ByteArray.empty t217 x27_1).extract 1 (rdOf ByteArray.empty t217 x27_1).size) [.string ((rdOf ByteArray.empty t217 x27_1).extract 1 (rdOf ByteArray.empty t217 x27_1).size)] (fun k_ => (w.heap.size ≤ k_) ∧ some k_ ≠ (.slice (some ad220) t217.length co15 : Value).ownBlock) (fun _ => False) rfl rfl ?aP (fun _ hk => hk.elim) ?aF ?aO ?aB ?aS ?aL ?_
                      (case aP => exact rfl)
                      (case aB => exact (by repeat ((with_reducible exact HB.out))))
                      (case aF => exact (fun k_ hk => ⟨(Nat.le_trans (below_size (by repeat ((with_reducible exact HB.out)))) hk), Kd.fresh' (Kd.R_lt (by (with_reducible repeat (fail)); exact HO_25.out)) k_ hk⟩))
                      (case aO => exact (by (with_reducible repeat (fail)); exact HO_215000.out))
                      (case aS => exact (below_size (by repeat ((with_reducible exact HB.out)))))
                      (case aL => have := LMc22.out; omega)
                      intro v223 w24 ho hb hg hat
                      rw [← Ny222.out] at ho
                      have n0_ := Aside0.mk (Kd.V_afterv (ok := (fun k_ => (P0_ k_ ∨ w.heap.size ≤ k_) ∧ some k_ ≠ (.slice (some ad220) t217.length co15 : Value).ownBlock ∧ k_ ≠ gb213 ∧ k_ ≠ gb214)) (by (with_reducible repeat (fail)); exact Kd.V_mono HO_0.out (fun _ hk => ⟨⟨hk.1, ⟨hk.2.1, ⟨hk.2.2.2.1, hk.2.2.2.2⟩⟩⟩, hk.2.2.1⟩)) hg hat)
                      have n1_ := Aside0.mk (Kd.R_after (ok := (fun k_ => (w.heap.size ≤ k_))) (by (with_reducible repeat (fail)); exact HO_25.out) hg hat)
                      have n2_ := Aside0.mk (blk_grown (g := gb213) (o := .cells #[.slice none 0 0, .slice none 0 0] 25 (0, 0)) (by (with_reducible repeat (fail)); exact BK213.out) hg (Kd.R_ne HO_215000.out BK213.out (by decide)))
                      have n3_ := Aside0.mk (blk_grown (g := gb214) (o := .cells #[u215000, .slice none 0 0] 25 (0, 0)) (by (with_reducible repeat (fail)); exact BK214.out) hg (Kd.R_ne HO_215000.out BK214.out (by decide)))
                      have n4_ := Aside0.mk (hb)
                      have n5_ := Aside0.mk (ho)
                      clear HO_0
                      clear HO_25
                      clear BK213
                      clear BK214
                      clear HB
                      clear HO_215000
                      have HO_0 := n0_
                      have HO_25 := n1_
                      have BK213 := n2_
                      have BK214 := n3_
                      have HB := n4_
                      have HO224 := n5_
                      clear n0_ n1_ n2_ n3_ n4_ n5_
                      clear ho hb hg hat
                      obtain ⟨Ao25, co25, eo25⟩ := Kd.R_slice HO224.out
                      (subst eo25)
                      refine hK.out _ _ ⟨(blk_cell BK214.out 0).trans rfl, (blk_cell BK214.out 1).trans rfl⟩ (fun hHeld => ?_)
                      clear hK K
                      refine norm_ (a' := ?_) ?_ ?_
                      rotate_left
                      · show Act.put _ (some 40) _ = _
                        simp only [Act.put, List.setIfInBounds_toArray, List.set_cons_zero, List.set_cons_succ, i64_w, i32_w]
                        rfl
                      refine pure_ (i := 6) (N := some 41) (v := ?_) (a' := ?_) #[true, true, true, true, true, true, true, false] rfl rfl (any_of HT_.out (by kernel_rfl)) (fun _ _ _ h => h) (Or.inl ⟨by rfl, ?_⟩) ?_ ?_
                      rotate_left
                      · intro w'
                        go_simp
                        with_reducible rfl
                      rotate_left
                      · simp only [Act.put, List.setIfInBounds_toArray, List.set_cons_zero, List.set_cons_succ, i64_w, i32_w]
                        rfl
                      refine last_ (i := 7) (N := none) #[true, true, true, true, true, true, true, true] rfl rfl (one_of HT_.out (by kernel_rfl)) (by decide) (fun K hK => ?_)
                      have hs26 : w24.cell? ⟨gb214, 0, none⟩ = some (u215000) := (blk_cell BK214.out 0).trans rfl
                      have hfs26 := blk_frozen BK214.out 0
                      have hns26_0 := NB213_214.out
                      have hms26_0 := NB214_213.out
                      refine skip_ (w1 := ?_) (by rfl) rfl ?_ ?_
                      rotate_left
                      · go_simp
                        rfl
                      refine hK.out _ _ ?_
                      clear hK K
                      refine done_ (done_of HT_.out (by kernel_rfl)) ?_
                      try go_wp2
                      go_roundg k1
                      case measure => have := HK1.out; omega
                      case rel => exact ⟨(wrap64 (x27_1 + 1)), (y222), (.slice Ao25 y222.length co25), (by rfl), H', ⟨by have := HK1.out; omega⟩, ⟨by (with_reducible repeat (fail)); exact Kd.V_mono (Kd.V_far (p := ⟨gb214, 0, none⟩) (Kd.V_mono HO_0.out (fun k_ hk => (⟨hk, hk.1.2.2.2⟩ : _ ∧ k_ ≠ gb214))) (fun _ hk => hk.2) (.slice Ao25 y222.length co25)) (fun _ hk => ⟨hk.1.1.1, ⟨hk.1.1.2.1, ⟨hk.1.2, ⟨hk.1.1.2.2.1, hk.1.1.2.2.2⟩⟩⟩⟩)⟩, ⟨by (with_reducible repeat (fail)); exact Kd.R_mono (Kd.R_far (p := ⟨gb214, 0, none⟩) (Kd.R_types HO_25.out BK214.out (by decide)) (fun _ hk => hk.2) (.slice Ao25 y222.length co25)) (fun _ hk => ⟨hk.1.1, hk.1.2⟩)⟩, ⟨by (with_reducible repeat (fail)); exact Kd.R_mono (Kd.R_far (p := ⟨gb214, 0, none⟩) (Kd.R_types HO224.out BK214.out (by decide)) (fun _ hk => hk.2) (.slice Ao25 y222.length co25)) (fun _ hk => ⟨hk.1.1, hk.1.2⟩)⟩, ⟨by (with_reducible repeat (fail)); refine blk_far ?_ NB213_214.out _; (with_reducible repeat (fail)); exact BK213.out⟩, ⟨by (with_reducible repeat (fail)); refine blk_put (cs := #[u215000, .slice none 0 0]) ?_ 0 _ rfl; (with_reducible repeat (fail)); exact BK214.out⟩, ⟨by repeat ((with_reducible first | exact HB.out | refine below_set ?_ GE214.out))⟩⟩
                    rw [if_neg c22] at H
                    exact absurd H (by simp)
                  rw [if_neg c21] at H
                  exact absurd H (by simp)
                replace c20 := Bool.eq_false_iff.mpr c20
                subst c20
                have H1 : (some (x215000_1, ([] : List (List (S43))), false)) = some (r1, r2, r3) := by rw [if_neg (show ¬ (false = true) by decide)] at H; exact H
                clear H
                have H := H1
                clear H1
                simp only [Option.some.injEq, Prod.mk.injEq] at H
                obtain ⟨rfl, rfl, rfl⟩ := H
                have p220 : 0 ≤ (x27_1 : Int) := of_decide_eq_true (by (with_reducible assumption))
                have q220 : x27_1 < (t217.length : Int) := of_decide_eq_true (by (with_reducible assumption))
                obtain ⟨ad220, e220, hx220_0⟩ := Kd.at_string (Kd.R_reads' HO_25.out).2.2 x27_1 p220 q220
                cases e220
                replace p220 := eq_true p220
                replace q220 := eq_true q220
                go_wp2_with (((with_reducible refine gate_callee (f := 20) rfl ?_); refine goesL_ (some 32) rfl rfl Tryd.func20 (by kernel_rfl) rfl #[.string (rdOf ByteArray.empty t217 x27_1), .string (⟨#[63]⟩ : ByteArray)] rfl (by (try simp only [List.map_toArray, List.map_cons, List.map_nil]); rfl) ?_; (with_reducible refine (strings_HasPrefix.calls (rdOf ByteArray.empty t217 x27_1) (⟨#[63]⟩ : ByteArray) false _ A19.out).mono ?_); rintro e w' ⟨rfl, ⟨nd, rfl⟩⟩; refine ⟨_, rfl, ?_⟩; (try (rw [drewN_self wr]; generalize hq_ : World.drewN wr _ = wr; have n0_ : Aside0 (Kd.V Kd.string 9 wr w.heap.size (fun k_ => (P0_ k_ ∨ w.heap.size ≤ k_) ∧ some k_ ≠ (.slice (some ad220) t217.length co15 : Value).ownBlock ∧ some k_ ≠ (u215000 : Value).ownBlock ∧ k_ ≠ gb213 ∧ k_ ≠ gb214) (.slice (some ad215) l0.length c0) l0) := ⟨by rw [← hq_]; exact (by (with_reducible repeat (apply Kd.V_drewN)); exact HO_0.out)⟩; have n1_ : Aside0 (Kd.R Kd.string 9 wr w.heap.size (fun k_ => (w.heap.size ≤ k_) ∧ some k_ ≠ (u215000 : Value).ownBlock) (.slice (some ad220) t217.length co15) t217) := ⟨by rw [← hq_]; exact (by (with_reducible repeat (apply Kd.R_drewN)); exact HO_25.out)⟩; have n2_ : Aside0 (Kd.R Kd.string 9 wr w.heap.size (fun k_ => (w.heap.size ≤ k_) ∧ some k_ ≠ (.slice (some ad220) t217.length co15 : Value).ownBlock) u215000 x215000_1) := ⟨by rw [← hq_]; exact (by (with_reducible repeat (apply Kd.R_drewN)); exact HO_215000.out)⟩; have n3_ : Aside0 (wr.heap[gb213]? = some (.cells #[.slice none 0 0, .slice none 0 0] 25 (0, 0))) := ⟨by rw [← hq_]; exact (by (with_reducible repeat (refine blk_drewN ?_ _)); exact BK213.out)⟩; have n4_ : Aside0 (wr.heap[gb214]? = some (.cells #[u215000, .slice none 0 0] 25 (0, 0))) := ⟨by rw [← hq_]; exact (by (with_reducible repeat (refine blk_drewN ?_ _)); exact BK214.out)⟩; have n5_ : Aside0 (Below w.heap.size w wr) := ⟨by rw [← hq_]; exact (by repeat ((with_reducible first | exact HB.out | apply pw_below_drewN)))⟩; clear HO_0 HO_25 HO_215000 BK213 BK214 HB hq_; have HO_0 := n0_; have HO_25 := n1_; have HO_215000 := n2_; have BK213 := n3_; have BK214 := n4_; have HB := n5_; clear n0_ n1_ n2_ n3_ n4_ n5_)); have hnb27 := NB214_213.out; have hnc27 := NB213_214.out; have hcz28_0 : wr.cell? ⟨gb214, 0, none⟩ = some (u215000) := (blk_cell BK214.out 0).trans rfl; have hcz28_1 : wr.cell? ⟨gb214, 1, none⟩ = some (.slice none 0 0) := (blk_cell BK214.out 1).trans rfl; have hfz28_0 := blk_frozen BK214.out 0; have hfz28_1 := blk_frozen BK214.out 1; obtain ⟨Ao29, co29, eo29⟩ := Kd.R_slice HO_215000.out; subst eo29; have hcz30_0 : wr.cell? ⟨gb213, 0, none⟩ = some (.slice none 0 0) := (blk_cell BK213.out 0).trans rfl; have hcz30_1 : wr.cell? ⟨gb213, 1, none⟩ = some (.slice none 0 0) := (blk_cell BK213.out 1).trans rfl; have hfz30_0 := blk_frozen BK213.out 0; have hfz30_1 := blk_frozen BK213.out 1))
                refine bodyPost_ret (results_ct rfl _ _ gb213 25 #[.slice Ao29 x215000_1.length co29, .slice none 0 0] (0, 0) _ rfl (by (with_reducible repeat (fail)); refine blk_put (cs := #[.slice Ao29 x215000_1.length co29, .slice none 0 0]) ?_ 1 _ rfl; (with_reducible repeat (fail)); refine blk_put (cs := #[.slice none 0 0, .slice none 0 0]) ?_ 0 _ rfl; (with_reducible repeat (fail)); exact BK213.out) Tryd.underlying25 rfl (by kernel_rfl)) rfl ?_
                exact ⟨_, _, by rfl, by (with_reducible repeat (fail)); exact Kd.R_mono (Kd.R_far (p := ⟨gb213, 1, none⟩) (Kd.R_far (p := ⟨gb213, 0, none⟩) (Kd.R_types HO_215000.out BK213.out (by decide)) (fun _ hk => hk.2) (.slice Ao29 x215000_1.length co29)) (fun _ hk => hk.2) (.slice none 0 0)) (fun _ hk => hk.1.1), by exact Kd.S_nil _ _ _ _ _, by repeat ((with_reducible first | exact HB.out | refine below_set ?_ GE213.out))⟩
              rw [if_neg c18] at H
              exact absurd H (by simp)
            rw [if_neg c17] at H
            exact absurd H (by simp)
          rw [if_neg c16] at H
          have c16b0 : decide (x27_1 < (t217.length : Int)) = false := decide_eq_false c16
          clear c16
          have H' := Aside0.mk H
          clear H
          go_wp2
          go_meet
          case rel => exact ⟨_, (x215000_1), (u215000), H', ⟨by have := HK1.out; omega⟩, ⟨by (with_reducible repeat (fail)); exact Kd.V_mono HO_0.out (fun _ hk => ⟨hk.1, ⟨hk.2.2.1, ⟨hk.2.2.2.1, hk.2.2.2.2⟩⟩⟩)⟩, ⟨by (with_reducible repeat (fail)); exact Kd.R_mono HO_215000.out (fun _ hk => hk.1)⟩, ⟨by (with_reducible repeat (fail)); exact BK213.out⟩, ⟨by (with_reducible repeat (fail)); exact BK214.out⟩, ⟨by repeat ((with_reducible exact HB.out))⟩⟩
    case rest =>
      clear HC9
      try clear c2
      try clear c2b0
      try clear c2b1
      try clear c2b2
      try clear c8b0
      try clear c8b1
      try clear hx215_0
      try clear p215
      try clear q215
      obtain ⟨kq, x215000_8, u215000, HA, HJ8, HO_0, HO_215000, BK213, BK214, HB⟩ := hcut
      cases kq with
      | zero => exact absurd HA.out (by simp [result_rows.j1])
      | succ kj8 =>
        have H := HA.out
        clear HA
        simp only [result_rows.j1] at H
        by_cases c31 : 1 ≤ (l0.length : Int)
        · rw [if_pos c31] at H
          have c31b0 := eq_true c31
          have c31b1 : decide (1 ≤ (l0.length : Int)) = true := decide_eq_true c31
          clear c31
          obtain ⟨y225, hy225⟩ : ∃ y_ : List ByteArray, y_ = (l0.drop 1) := ⟨_, rfl⟩
          replace H : (result_rows.l1 kj8 y225 (y225.length : Int) 0 x215000_8 ([] : List (List (S43)))) = some (r1, r2, r3) := by (have H2_ := (Option.bind_some _ _).symm.trans H; rw [hy225]; with_reducible exact H2_)
          have Ny225 := Aside0.mk hy225
          clear hy225
          have H' := Aside0.mk H
          clear H
          have q32 : (1 : Int) ≤ ((l0.length : Int) : Int) := of_decide_eq_true (by (with_reducible assumption))
          obtain ⟨i032, hi032, _, hsz32, _⟩ := info_parts info9
          have hroom32 : l0.length ≤ c0 := (Kd.V_reads' HO_0.out).2.1
          have hC32 : Kd.F Kd.string _ _ (some ad215) l0.length l0 := (Kd.V_at (base := w.heap.size) HO_0.out).2.2
          have hcut32 := cut_from (P := Tryd.prog) 22 9 .i64 Tryd.underlying22 hi032 1 hsz32 (some ad215) l0.length c0 1 (by omega) q32
          have hr32 := Kd.F_cut (m := (1 : Int).toNat) (c := c0) hC32 (by omega) hroom32
          obtain ⟨A32, hA32⟩ : ∃ A1, A1 = (if c0 = (1 : Int).toNat then (some ad215) else ((some ad215) : Option Addr).map (·.add ((1 : Int).toNat * 1))) := ⟨_, rfl⟩
          obtain ⟨c32, hc32⟩ : ∃ c1, c1 = c0 - (1 : Int).toNat := ⟨_, rfl⟩
          have hy32 : y225.length = l0.length - (1 : Int).toNat := (by rw [Ny225.out, List.length_drop] <;> omega)
          rw [show (l0).drop (1 : Int).toNat = y225 from Ny225.out.symm] at hr32
          replace hr32 : Kd.F Kd.string _ _ A32 y225.length y225 := (by rw [hA32]; exact hr32)
          rw [← hy32, ← hA32, ← hc32] at hcut32
          have HO229 := Aside0.mk (show Kd.V Kd.string 9 _ w.heap.size _ (.slice A32 y225.length c32) y225 from Kd.V_mk (by rw [hy32, hc32]; exact Nat.sub_le_sub_right hroom32 _) hr32)
          have HC229 := Aside0.mk (show y225.length ≤ c32 from by rw [hy32, hc32]; exact Nat.sub_le_sub_right hroom32 _)
          clear hr32 hC32 hroom32 hi032 hsz32 hc32
          have KY32 := Aside0.mk hy32
          have KA32 := Aside0.mk hA32
          clear hy32 hA32
          replace q32 := eq_true q32
          go_wp2
          go_loopg [46] kj8 (fun kq v46 w' => ∃ (x46_2 : Int) (x215001_2 : List (List (S43))) (u215001 : Value), v46 = .int .i64 x46_2 ∧ Aside0 (result_rows.l1 kq y225 (y225.length : Int) x46_2 x215000_8 x215001_2 = some (r1, r2, r3)) ∧ Aside0 (kq ≤ kj8) ∧ Aside0 (Kd.V Kd.string 9 w' w.heap.size (fun k_ => (P0_ k_ ∨ w.heap.size ≤ k_) ∧ some k_ ≠ (u215000 : Value).ownBlock ∧ some k_ ≠ (u215001 : Value).ownBlock ∧ k_ ≠ gb213 ∧ k_ ≠ gb214) (.slice A32 y225.length c32) y225) ∧ Aside0 (Kd.R Kd.string 9 w' w.heap.size (fun k_ => (w.heap.size ≤ k_)) u215000 x215000_8) ∧ Aside0 (Kd.S (Kd.slice 43 k43) 40 w' w.heap.size (fun k_ => (w.heap.size ≤ k_)) u215001 x215001_2) ∧ Aside0 (w'.heap[gb213]? = some (.cells #[(.slice none 0 0), (.slice none 0 0)] 25 (0, 0))) ∧ Aside0 (w'.heap[gb214]? = some (.cells #[u215000, u215001] 25 (0, 0))) ∧ Aside0 (Below w.heap.size w w'))
          case atStart => exact ⟨(0), (([] : List (List (S43)))), (.slice none 0 0), (by rfl), H', ⟨Nat.le_refl _⟩, ⟨by (with_reducible repeat (fail)); exact Kd.V_mono HO229.out (fun _ hk => ⟨hk.1, ⟨hk.2.1, ⟨(by simp [Value.ownBlock]), ⟨hk.2.2.1, hk.2.2.2⟩⟩⟩⟩)⟩, ⟨by (with_reducible repeat (fail)); exact HO_215000.out⟩, ⟨by exact Kd.S_nil _ _ _ _ _⟩, ⟨by (with_reducible repeat (fail)); exact BK213.out⟩, ⟨by (with_reducible repeat (fail)); exact BK214.out⟩, ⟨by repeat ((with_reducible exact HB.out))⟩⟩
          case round =>
            clear H'
            try clear c31b0
            try clear c31b1
            try clear q32
            obtain ⟨x46_2, x215001_2, u215001, rfl, HA, HK2, HO_44, HO_215000, HO_215001, BK213, BK214, HB⟩ := hrel
            cases gk with
            | zero => exact absurd HA.out (by simp [result_rows.l1])
            | succ k2 =>
              have H := HA.out
              clear HA
              simp only [result_rows.l1] at H
              by_cases c33 : x46_2 < (y225.length : Int)
              · rw [if_pos c33] at H
                have c33b0 : decide (x46_2 < (y225.length : Int)) = true := decide_eq_true c33
                clear c33
                by_cases c34 : 0 ≤ x46_2
                · rw [if_pos c34] at H
                  have c34b0 : decide (0 ≤ x46_2) = true := decide_eq_true c34
                  clear c34
                  by_cases c35 : x46_2 < (y225.length : Int)
                  · rw [if_pos c35] at H
                    have c35b0 : decide (x46_2 < (y225.length : Int)) = true := decide_eq_true c35
                    clear c35
                    obtain ⟨y231, hy231⟩ : ∃ y_ : List (S43), y_ = (([] : List (S43))) := ⟨_, rfl⟩
                    replace H : ((result_split.f (rdOf ByteArray.empty y225 x46_2) (x215000_8.length : Int)).bind fun t234 => (result_rows.l2 k2 y231 y225 (y225.length : Int) x46_2 t234 (t234.length : Int) 0 x215000_8 x215001_2)) = some (r1, r2, r3) := by (rw [hy231]; with_reducible exact H)
                    have Ny231 := Aside0.mk hy231
                    clear hy231
                    replace H := Option.bind_eq_some_iff.mp H
                    obtain ⟨t234, A360, H⟩ := H
                    replace H : (result_rows.l2 k2 y231 y225 (y225.length : Int) x46_2 t234 (t234.length : Int) 0 x215000_8 x215001_2) = some (r1, r2, r3) := H
                    have A36 := Aside0.mk A360
                    clear A360
                    have H' := Aside0.mk H
                    clear H
                    have p230 : 0 ≤ (x46_2 : Int) := of_decide_eq_true (by (with_reducible assumption))
                    have q230 : x46_2 < (y225.length : Int) := of_decide_eq_true (by (with_reducible assumption))
                    obtain ⟨ad230, e230, hx230_0⟩ := Kd.at_string (Kd.V_reads' HO_44.out).2.2 x46_2 p230 q230
                    cases e230
                    replace p230 := eq_true p230
                    replace q230 := eq_true q230
                    go_wp2_with (first | ((with_reducible refine gate_dst (N := 50) rfl ?_); refine Kd.R_lit k43 _ 43 ?hg (N := 50) ?hd (xs := ([] : List (S43))) (inner := []) (ok := fun _ => True) (okp := fun _ => True) ?hr ?hp (fun _ hk => hk) trivial (Below.refl _ _) (Nat.le_refl _) (by simp) ?_; (case hd => rfl); (case hg => rfl); (case hr => (go_simp; done)); (case hp => exact (Reps.none _ _)); intro v232 w37 ho38 hb hg_ hnew_; clear hg_ hnew_; (rw [← Ny231.out] at ho38); have n0_ := Aside0.mk (Kd.V_elder' (by (with_reducible repeat (fail)); exact HO_44.out) (Kd.R_base ho38) hb); have n1_ := Aside0.mk (Kd.R_below (by (with_reducible repeat (fail)); exact HO_215000.out) hb); have n2_ := Aside0.mk (Kd.S_elder' (by (with_reducible repeat (fail)); exact HO_215001.out) (Kd.R_base ho38) hb); have n3_ := Aside0.mk (Kd.R_lower (Kd.R_newM (M := fun k_ => (w.heap.size ≤ k_)) ho38 (below_size (by repeat ((with_reducible exact HB.out)))) (fun k_ h_ => h_)) (below_size (by repeat ((with_reducible exact HB.out))))); have n4_ := Aside0.mk (blk_below (g := gb213) (o := .cells #[.slice none 0 0, .slice none 0 0] 25 (0, 0)) (by (with_reducible repeat (fail)); exact BK213.out) hb); have n5_ := Aside0.mk (blk_below (g := gb214) (o := .cells #[u215000, u215001] 25 (0, 0)) (by (with_reducible repeat (fail)); exact BK214.out) hb); have n6_ := Aside0.mk (below_step (by repeat ((with_reducible exact HB.out))) hb); clear HO_44; clear HO_215000; clear HO_215001; clear BK213; clear BK214; clear HB; have HO_44 := n0_; have HO_215000 := n1_; have HO_215001 := n2_; have HO233 := n3_; have BK213 := n4_; have BK214 := n5_; have HB := n6_; clear n0_ n1_ n2_ n3_ n4_ n5_ n6_; clear hb ho38; have hnb39 := NB214_213.out; have hnc39 := NB213_214.out; have hcz40_0 : w37.cell? ⟨gb214, 0, none⟩ = some (u215000) := (blk_cell BK214.out 0).trans rfl; have hcz40_1 : w37.cell? ⟨gb214, 1, none⟩ = some (u215001) := (blk_cell BK214.out 1).trans rfl; have hfz40_0 := blk_frozen BK214.out 0; have hfz40_1 := blk_frozen BK214.out 1; obtain ⟨Ao41, co41, eo41⟩ := Kd.R_slice HO_215000.out; subst eo41) | ((with_reducible refine gate_callee (f := 36) rfl ?_); refine goesL_ (some 55) rfl rfl Tryd.func36 (by kernel_rfl) rfl #[.string (rdOf ByteArray.empty y225 x46_2), .int .i64 (x215000_8.length : Int)] rfl (by (try simp only [List.map_toArray, List.map_cons, List.map_nil]); rfl) ?_; (with_reducible refine (result_split.calls (rdOf ByteArray.empty y225 x46_2) (x215000_8.length : Int) t234 _ (Gl.below HGL.out (by repeat ((with_reducible exact HB.out)))) A36.out).mono ?_); rintro e w42 ⟨v235, rfl, ho0, hb⟩; refine ⟨_, rfl, ?_⟩; have n0_ := Aside0.mk (Kd.V_elder' (by (with_reducible repeat (fail)); exact HO_44.out) (Kd.R_base ho0) hb); have n1_ := Aside0.mk (Kd.R_elder' (by (with_reducible repeat (fail)); exact HO_215000.out) (Kd.R_base ho0) hb); have n2_ := Aside0.mk (Kd.S_below (by (with_reducible repeat (fail)); exact HO_215001.out) hb); have n3_ := Aside0.mk (Kd.R_below (by (with_reducible repeat (fail)); exact HO233.out) hb); have n4_ := Aside0.mk (Kd.R_lower (Kd.R_new' (Kd.R_newM (M := fun k_ => (w.heap.size ≤ k_)) ho0 (below_size (by repeat ((with_reducible exact HB.out)))) (fun k_ h_ => h_)) (Kd.R_lt (by (with_reducible repeat (fail)); exact HO_215000.out))) (below_size (by repeat ((with_reducible exact HB.out))))); have n5_ := Aside0.mk (blk_below (g := gb213) (o := .cells #[.slice none 0 0, .slice none 0 0] 25 (0, 0)) (by (with_reducible repeat (fail)); exact BK213.out) hb); have n6_ := Aside0.mk (blk_below (g := gb214) (o := .cells #[.slice Ao41 x215000_8.length co41, u215001] 25 (0, 0)) (by (with_reducible repeat (fail)); exact BK214.out) hb); have n7_ := Aside0.mk (below_step (by repeat ((with_reducible exact HB.out))) hb); clear HO_44; clear HO_215000; clear HO_215001; clear HO233; clear BK213; clear BK214; clear HB; have HO_44 := n0_; have HO_215000 := n1_; have HO_215001 := n2_; have HO233 := n3_; have HO236 := n4_; have BK213 := n5_; have BK214 := n6_; have HB := n7_; clear n0_ n1_ n2_ n3_ n4_ n5_ n6_ n7_; (try clear hb); (try clear ho0); obtain ⟨Ao43, co43, eo43⟩ := Kd.R_slice HO236.out; subst eo43))
                    go_loopg [9, 57] k2 (fun kq v9 v57 w' => ∃ (x9_3 : List (S43)) (x57_3 : Int), v57 = .int .i64 x57_3 ∧ Aside0 (result_rows.l2 kq x9_3 y225 (y225.length : Int) x46_2 t234 (t234.length : Int) x57_3 x215000_8 x215001_2 = some (r1, r2, r3)) ∧ Aside0 (kq ≤ k2) ∧ Aside0 (Kd.R k43 43 w' w.heap.size (fun k_ => (w.heap.size ≤ k_)) v9 x9_3) ∧ Aside0 (Kd.V Kd.string 9 w' w.heap.size (fun k_ => (P0_ k_ ∨ w.heap.size ≤ k_) ∧ some k_ ≠ (v9 : Value).ownBlock ∧ some k_ ≠ ((.slice Ao43 t234.length co43) : Value).ownBlock ∧ some k_ ≠ ((.slice Ao41 x215000_8.length co41) : Value).ownBlock ∧ some k_ ≠ (u215001 : Value).ownBlock ∧ k_ ≠ gb213 ∧ k_ ≠ gb214) (.slice (some ad230) y225.length c32) y225) ∧ Aside0 (Kd.R Kd.string 9 w' w.heap.size (fun k_ => (w.heap.size ≤ k_) ∧ some k_ ≠ ((.slice Ao41 x215000_8.length co41) : Value).ownBlock) (.slice Ao43 t234.length co43) t234) ∧ Aside0 (Kd.R Kd.string 9 w' w.heap.size (fun k_ => (w.heap.size ≤ k_) ∧ some k_ ≠ ((.slice Ao43 t234.length co43) : Value).ownBlock) (.slice Ao41 x215000_8.length co41) x215000_8) ∧ Aside0 (Kd.S (Kd.slice 43 k43) 40 w' w.heap.size (fun k_ => (w.heap.size ≤ k_) ∧ some k_ ≠ (v9 : Value).ownBlock) u215001 x215001_2) ∧ Aside0 (w'.heap[gb213]? = some (.cells #[(.slice none 0 0), (.slice none 0 0)] 25 (0, 0))) ∧ Aside0 (w'.heap[gb214]? = some (.cells #[(.slice Ao41 x215000_8.length co41), u215001] 25 (0, 0))) ∧ Aside0 (Below w.heap.size w w'))
                    case atStart => exact ⟨(y231), (0), (by rfl), H', ⟨Nat.le_refl _⟩, ⟨by (with_reducible repeat (fail)); exact Kd.R_mono HO233.out (fun _ hk => hk.1)⟩, ⟨by (with_reducible repeat (fail)); exact Kd.V_mono HO_44.out (fun _ hk => ⟨hk.1.1.1, ⟨hk.1.2, ⟨hk.2, ⟨hk.1.1.2.1, ⟨hk.1.1.2.2.1, ⟨hk.1.1.2.2.2.1, hk.1.1.2.2.2.2⟩⟩⟩⟩⟩⟩)⟩, ⟨by (with_reducible repeat (fail)); exact Kd.R_mono HO236.out (fun _ hk => ⟨hk.1.1, hk.2⟩)⟩, ⟨by (with_reducible repeat (fail)); exact HO_215000.out⟩, ⟨by (with_reducible repeat (fail)); exact HO_215001.out⟩, ⟨by (with_reducible repeat (fail)); exact BK213.out⟩, ⟨by (with_reducible repeat (fail)); exact BK214.out⟩, ⟨by repeat ((with_reducible exact HB.out))⟩⟩
                    case round =>
                      clear H'
                      try clear c33b0
                      try clear c34b0
                      try clear c35b0
                      try clear hcz40_0
                      try clear hcz40_1
                      try clear hfz40_0
                      try clear hfz40_1
                      try clear hx230_0
                      try clear p230
                      try clear q230
                      obtain ⟨x9_3, x57_3, rfl, HA, HK3, HO_9, HO_44, HO_55, HO_215000, HO_215001, BK213, BK214, HB⟩ := hrel
                      cases gk with
                      | zero => exact absurd HA.out (by simp [result_rows.l2])
                      | succ k3 =>
                        have H := HA.out
                        clear HA
                        simp only [result_rows.l2] at H
                        by_cases c44 : x57_3 < (t234.length : Int)
                        · rw [if_pos c44] at H
                          have c44b0 : decide (x57_3 < (t234.length : Int)) = true := decide_eq_true c44
                          clear c44
                          by_cases c45 : 0 ≤ x57_3
                          · rw [if_pos c45] at H
                            have c45b0 : decide (0 ≤ x57_3) = true := decide_eq_true c45
                            clear c45
                            by_cases c46 : x57_3 < (t234.length : Int)
                            · rw [if_pos c46] at H
                              have c46b0 : decide (x57_3 < (t234.length : Int)) = true := decide_eq_true c46
                              clear c46
                              replace H := Option.bind_eq_some_iff.mp H
                              obtain ⟨⟨t238, t239, t240, t241, t242⟩, A470, H⟩ := H
                              replace H : (if t242 = 0 then (if x9_3.length < 2513169434916 then (result_rows.l2 k3 (x9_3 ++ [(⟨t238, t239, t240, t241⟩ : S43)]) y225 (y225.length : Int) x46_2 t234 (t234.length : Int) (wrap64 (x57_3 + 1)) x215000_8 x215001_2) else (none)) else (some (x215000_8, x215001_2, false))) = some (r1, r2, r3) := H
                              have A47 := Aside0.mk A470
                              clear A470
                              by_cases c48 : t242 = 0
                              · rw [if_pos c48] at H
                                have c48b0 : (t242 == 0) = true := beq_iff_eq.mpr c48
                                have c48b1 : (t242 != 0) = false := bne_eq_false_iff_eq.mpr c48
                                clear c48
                                by_cases c49 : x9_3.length < 2513169434916
                                · rw [if_pos c49] at H
                                  have LMc49 := Aside0.mk c49
                                  clear c49
                                  obtain ⟨y244, hy244⟩ : ∃ y_ : List (S43), y_ = (x9_3 ++ [(⟨t238, t239, t240, t241⟩ : S43)]) := ⟨_, rfl⟩
                                  replace H : (result_rows.l2 k3 y244 y225 (y225.length : Int) x46_2 t234 (t234.length : Int) (wrap64 (x57_3 + 1)) x215000_8 x215001_2) = some (r1, r2, r3) := by (rw [hy244]; with_reducible exact H)
                                  have Ny244 := Aside0.mk hy244
                                  clear hy244
                                  have H' := Aside0.mk H
                                  clear H
                                  have p237 : 0 ≤ (x57_3 : Int) := of_decide_eq_true (by (with_reducible assumption))
                                  have q237 : x57_3 < (t234.length : Int) := of_decide_eq_true (by (with_reducible assumption))
                                  obtain ⟨ad237, e237, hx237_0⟩ := Kd.at_string (Kd.R_reads' HO_55.out).2.2 x57_3 p237 q237
                                  cases e237
                                  replace p237 := eq_true p237
                                  replace q237 := eq_true q237
                                  go_wp2_with (first | ((with_reducible refine gate_callee (f := 37) rfl ?_); refine goesL_ (some 63) rfl rfl Tryd.func37 (by kernel_rfl) rfl #[.string (rdOf ByteArray.empty t234 x57_3)] rfl (by (try simp only [List.map_toArray, List.map_cons, List.map_nil]); rfl) ?_; (with_reducible refine (term_Read.calls k3 (rdOf ByteArray.empty t234 x57_3) t238 t239 t240 t241 t242 _ A47.out).mono ?_); rintro e w50 ⟨rfl, hb⟩; refine ⟨_, rfl, ?_⟩; have n0_ := Aside0.mk (Kd.R_below (by (with_reducible repeat (fail)); exact HO_9.out) hb); have n1_ := Aside0.mk (Kd.V_below (by (with_reducible repeat (fail)); exact HO_44.out) hb); have n2_ := Aside0.mk (Kd.R_below (by (with_reducible repeat (fail)); exact HO_55.out) hb); have n3_ := Aside0.mk (Kd.R_below (by (with_reducible repeat (fail)); exact HO_215000.out) hb); have n4_ := Aside0.mk (Kd.S_below (by (with_reducible repeat (fail)); exact HO_215001.out) hb); have n5_ := Aside0.mk (blk_below (g := gb213) (o := .cells #[.slice none 0 0, .slice none 0 0] 25 (0, 0)) (by (with_reducible repeat (fail)); exact BK213.out) hb); have n6_ := Aside0.mk (blk_below (g := gb214) (o := .cells #[.slice Ao41 x215000_8.length co41, u215001] 25 (0, 0)) (by (with_reducible repeat (fail)); exact BK214.out) hb); have n7_ := Aside0.mk (below_step (by repeat ((with_reducible exact HB.out))) hb); clear HO_9; clear HO_44; clear HO_55; clear HO_215000; clear HO_215001; clear BK213; clear BK214; clear HB; have HO_9 := n0_; have HO_44 := n1_; have HO_55 := n2_; have HO_215000 := n3_; have HO_215001 := n4_; have BK213 := n5_; have BK214 := n6_; have HB := n7_; clear n0_ n1_ n2_ n3_ n4_ n5_ n6_ n7_; (try clear hb)) | ((with_reducible refine gate_dst (N := 12) rfl ?_); refine box_event ?hg (N := 12) ?hd (cs := #[.int .i64 0, .string (⟨#[]⟩ : ByteArray), .string (⟨#[]⟩ : ByteArray), .string (⟨#[]⟩ : ByteArray)]) (t := 43) ?hr ?_; (case hd => rfl); (case hg => rfl); (case hr => (go_simp; done)); intro gb243 hg w51 hbox hb; have n0_ := Aside0.mk (Kd.R_below (Kd.R_elderB (by (with_reducible repeat (fail)); exact HO_9.out) gb243 (Nat.le_of_eq hg.symm)) hb); have n1_ := Aside0.mk (Kd.V_below (Kd.V_elderB (by (with_reducible repeat (fail)); exact HO_44.out) gb243 (Nat.le_of_eq hg.symm)) hb); have n2_ := Aside0.mk (Kd.R_below (by (with_reducible repeat (fail)); exact HO_55.out) hb); have n3_ := Aside0.mk (Kd.R_below (by (with_reducible repeat (fail)); exact HO_215000.out) hb); have n4_ := Aside0.mk (Kd.S_below (Kd.S_elderB (by (with_reducible repeat (fail)); exact HO_215001.out) gb243 (Nat.le_of_eq hg.symm)) hb); have n5_ := Aside0.mk (blk_below (g := gb213) (o := .cells #[.slice none 0 0, .slice none 0 0] 25 (0, 0)) (by (with_reducible repeat (fail)); exact BK213.out) hb); have n6_ := Aside0.mk (blk_below (g := gb214) (o := .cells #[.slice Ao41 x215000_8.length co41, u215001] 25 (0, 0)) (by (with_reducible repeat (fail)); exact BK214.out) hb); have n7_ := Aside0.mk (below_step (by repeat ((with_reducible exact HB.out))) hb); have n8_ := Aside0.mk (hbox); have n9_ := Aside0.mk ((by rw [hg]; exact (below_size (by repeat ((with_reducible exact HB.out)))) : w.heap.size ≤ gb243)); have n10_ := Aside0.mk ((by rw [hg]; exact (below_size (by repeat ((with_reducible exact HB.out)))) : w.heap.size ≤ gb243)); have n11_ := Aside0.mk ((by rw [hg]; exact Nat.ne_of_lt (blk_lt (g := gb213) (o := .cells #[.slice none 0 0, .slice none 0 0] 25 (0, 0)) (by (with_reducible repeat (fail)); exact BK213.out)) : gb213 ≠ gb243)); have n12_ := Aside0.mk ((by rw [hg]; exact Nat.ne_of_gt (blk_lt (g := gb213) (o := .cells #[.slice none 0 0, .slice none 0 0] 25 (0, 0)) (by (with_reducible repeat (fail)); exact BK213.out)) : gb243 ≠ gb213)); have n13_ := Aside0.mk ((by rw [hg]; exact Nat.ne_of_lt (blk_lt (g := gb214) (o := .cells #[.slice Ao41 x215000_8.length co41, u215001] 25 (0, 0)) (by (with_reducible repeat (fail)); exact BK214.out)) : gb214 ≠ gb243)); have n14_ := Aside0.mk ((by rw [hg]; exact Nat.ne_of_gt (blk_lt (g := gb214) (o := .cells #[.slice Ao41 x215000_8.length co41, u215001] 25 (0, 0)) (by (with_reducible repeat (fail)); exact BK214.out)) : gb243 ≠ gb214)); clear HO_9; clear HO_44; clear HO_55; clear HO_215000; clear HO_215001; clear BK213; clear BK214; clear HB; have HO_9 := n0_; have HO_44 := n1_; have HO_55 := n2_; have HO_215000 := n3_; have HO_215001 := n4_; have BK213 := n5_; have BK214 := n6_; have HB := n7_; have BK243 := n8_; have GW243 := n9_; have GE243 := n10_; have NB213_243 := n11_; have NB243_213 := n12_; have NB214_243 := n13_; have NB243_214 := n14_; clear n0_ n1_ n2_ n3_ n4_ n5_ n6_ n7_ n8_ n9_ n10_ n11_ n12_ n13_ n14_; clear hb hbox hg; have hnb52 := NB243_213.out; have hnc52 := NB213_243.out; have hnb53 := NB243_214.out; have hnc53 := NB214_243.out; have hcz54_0 : w51.cell? ⟨gb243, 0, none⟩ = some (.int .i64 0) := (blk_cell BK243.out 0).trans rfl; have hcz54_1 : w51.cell? ⟨gb243, 1, none⟩ = some (.string (⟨#[]⟩ : ByteArray)) := (blk_cell BK243.out 1).trans rfl; have hcz54_2 : w51.cell? ⟨gb243, 2, none⟩ = some (.string (⟨#[]⟩ : ByteArray)) := (blk_cell BK243.out 2).trans rfl; have hcz54_3 : w51.cell? ⟨gb243, 3, none⟩ = some (.string (⟨#[]⟩ : ByteArray)) := (blk_cell BK243.out 3).trans rfl; have hfz54_0 := blk_frozen BK243.out 0; have hfz54_1 := blk_frozen BK243.out 1; have hfz54_2 := blk_frozen BK243.out 2; have hfz54_3 := blk_frozen BK243.out 3) | ((with_reducible refine gate_builtin (b := .append) (xs := #[.tmp 69, .tmp 71]) rfl ?_); at_builtin; refine Kd.R_append k43 (w0 := w) w.heap.size rfl (.tmp 69) (.tmp 71) 40 43 (.agg #[(.int .i64 0), (.string ⟨#[]⟩), (.string ⟨#[]⟩), (.string ⟨#[]⟩)]) 56 rfl Tryd.underlying40 info43 rfl (by decide) (by omega) u9 x9_3 (⟨t238, t239, t240, t241⟩ : S43) [.int .i64 t238, .string t239, .string t240, .string t241] (fun k_ => (w.heap.size ≤ k_) ∧ k_ ≠ gb243) (fun _ => False) rfl (by (go_simp; done)) ?aP (fun _ hk => hk.elim) ?aF ?aO ?aB ?aS ?aL ?_; (case aP => exact k43_mkM _ _ _ (⟨t238, t239, t240, t241⟩ : S43)); (case aB => exact (by repeat ((with_reducible first | exact HB.out | refine below_set ?_ GE243.out)))); (case aF => exact (fun k_ hk => ⟨(Nat.le_trans (below_size (by repeat ((with_reducible first | exact HB.out | refine below_set ?_ GE243.out)))) hk), Kd.freshB (g := gb243) (o := .cells #[.int .i64 t238, .string t239, .string t240, .string t241] 43 (0, 0)) (by (with_reducible repeat (fail)); refine blk_put (cs := #[.int .i64 t238, .string t239, .string t240, .string (⟨#[]⟩ : ByteArray)]) ?_ 3 _ rfl; (with_reducible repeat (fail)); refine blk_put (cs := #[.int .i64 t238, .string t239, .string (⟨#[]⟩ : ByteArray), .string (⟨#[]⟩ : ByteArray)]) ?_ 2 _ rfl; (with_reducible repeat (fail)); refine blk_put (cs := #[.int .i64 t238, .string (⟨#[]⟩ : ByteArray), .string (⟨#[]⟩ : ByteArray), .string (⟨#[]⟩ : ByteArray)]) ?_ 1 _ rfl; (with_reducible repeat (fail)); refine blk_put (cs := #[.int .i64 0, .string (⟨#[]⟩ : ByteArray), .string (⟨#[]⟩ : ByteArray), .string (⟨#[]⟩ : ByteArray)]) ?_ 0 _ rfl; (with_reducible repeat (fail)); exact BK243.out) k_ hk⟩)); (case aO => exact (by (with_reducible repeat (fail)); exact Kd.R_mono (Kd.R_far (p := ⟨gb243, 3, none⟩) (Kd.R_far (p := ⟨gb243, 2, none⟩) (Kd.R_far (p := ⟨gb243, 1, none⟩) (Kd.R_far (p := ⟨gb243, 0, none⟩) (Kd.R_mono HO_9.out (fun k_ hk => (⟨hk, hk.2⟩ : _ ∧ k_ ≠ gb243))) (fun _ hk => hk.2) (.int .i64 t238)) (fun _ hk => hk.2) (.string t239)) (fun _ hk => hk.2) (.string t240)) (fun _ hk => hk.2) (.string t241)) (fun _ hk => ⟨hk.1.1, hk.1.2⟩))); (case aS => exact (below_size (by repeat ((with_reducible first | exact HB.out | refine below_set ?_ GE243.out))))); (case aL => have := LMc49.out; omega); intro v245 w55 ho hb hg hat; rw [← Ny244.out] at ho; have n0_ := Aside0.mk (Kd.V_afterv (ok := (fun k_ => (P0_ k_ ∨ w.heap.size ≤ k_) ∧ some k_ ≠ (.slice (some ad237) t234.length co43 : Value).ownBlock ∧ some k_ ≠ (.slice Ao41 x215000_8.length co41 : Value).ownBlock ∧ some k_ ≠ (u215001 : Value).ownBlock ∧ k_ ≠ gb213 ∧ k_ ≠ gb214 ∧ k_ ≠ gb243)) (by (with_reducible repeat (fail)); exact Kd.V_mono (Kd.V_far (p := ⟨gb243, 3, none⟩) (Kd.V_far (p := ⟨gb243, 2, none⟩) (Kd.V_far (p := ⟨gb243, 1, none⟩) (Kd.V_far (p := ⟨gb243, 0, none⟩) (Kd.V_mono HO_44.out (fun k_ hk => (⟨hk, hk.2⟩ : _ ∧ k_ ≠ gb243))) (fun _ hk => hk.2) (.int .i64 t238)) (fun _ hk => hk.2) (.string t239)) (fun _ hk => hk.2) (.string t240)) (fun _ hk => hk.2) (.string t241)) (fun _ hk => ⟨⟨hk.1.1.1, ⟨hk.1.1.2.2.1, ⟨hk.1.1.2.2.2.1, ⟨hk.1.1.2.2.2.2.1, ⟨hk.1.1.2.2.2.2.2.1, ⟨hk.1.1.2.2.2.2.2.2, hk.1.2⟩⟩⟩⟩⟩⟩, hk.1.1.2.1⟩)) hg hat); have n1_ := Aside0.mk (Kd.R_over' (by (with_reducible repeat (fail)); exact (Kd.R_mono (Kd.R_far (p := ⟨gb243, 3, none⟩) (Kd.R_far (p := ⟨gb243, 2, none⟩) (Kd.R_far (p := ⟨gb243, 1, none⟩) (Kd.R_far (p := ⟨gb243, 0, none⟩) (Kd.R_types HO_55.out BK243.out (by decide)) (fun _ hk => hk.2) (.int .i64 t238)) (fun _ hk => hk.2) (.string t239)) (fun _ hk => hk.2) (.string t240)) (fun _ hk => hk.2) (.string t241)) (fun _ h_ => h_.1))) (Kd.R_typed (by (with_reducible repeat (fail)); exact (Kd.R_mono (Kd.R_far (p := ⟨gb243, 3, none⟩) (Kd.R_far (p := ⟨gb243, 2, none⟩) (Kd.R_far (p := ⟨gb243, 1, none⟩) (Kd.R_far (p := ⟨gb243, 0, none⟩) (Kd.R_mono HO_9.out (fun k_ hk => (⟨hk, hk.2⟩ : _ ∧ k_ ≠ gb243))) (fun _ hk => hk.2) (.int .i64 t238)) (fun _ hk => hk.2) (.string t239)) (fun _ hk => hk.2) (.string t240)) (fun _ hk => hk.2) (.string t241)) (fun _ h_ => h_.1)))) (by decide) hg); have n2_ := Aside0.mk (Kd.R_over' (by (with_reducible repeat (fail)); exact (Kd.R_mono (Kd.R_far (p := ⟨gb243, 3, none⟩) (Kd.R_far (p := ⟨gb243, 2, none⟩) (Kd.R_far (p := ⟨gb243, 1, none⟩) (Kd.R_far (p := ⟨gb243, 0, none⟩) (Kd.R_types HO_215000.out BK243.out (by decide)) (fun _ hk => hk.2) (.int .i64 t238)) (fun _ hk => hk.2) (.string t239)) (fun _ hk => hk.2) (.string t240)) (fun _ hk => hk.2) (.string t241)) (fun _ h_ => h_.1))) (Kd.R_typed (by (with_reducible repeat (fail)); exact (Kd.R_mono (Kd.R_far (p := ⟨gb243, 3, none⟩) (Kd.R_far (p := ⟨gb243, 2, none⟩) (Kd.R_far (p := ⟨gb243, 1, none⟩) (Kd.R_far (p := ⟨gb243, 0, none⟩) (Kd.R_mono HO_9.out (fun k_ hk => (⟨hk, hk.2⟩ : _ ∧ k_ ≠ gb243))) (fun _ hk => hk.2) (.int .i64 t238)) (fun _ hk => hk.2) (.string t239)) (fun _ hk => hk.2) (.string t240)) (fun _ hk => hk.2) (.string t241)) (fun _ h_ => h_.1)))) (by decide) hg); have n3_ := Aside0.mk (Kd.S_after (ok := (fun k_ => (w.heap.size ≤ k_) ∧ k_ ≠ gb243)) (by (with_reducible repeat (fail)); exact Kd.S_mono (Kd.S_far (p := ⟨gb243, 3, none⟩) (Kd.S_far (p := ⟨gb243, 2, none⟩) (Kd.S_far (p := ⟨gb243, 1, none⟩) (Kd.S_far (p := ⟨gb243, 0, none⟩) (Kd.S_mono HO_215001.out (fun k_ hk => (⟨hk, hk.2⟩ : _ ∧ k_ ≠ gb243))) (fun _ hk => hk.2) (.int .i64 t238)) (fun _ hk => hk.2) (.string t239)) (fun _ hk => hk.2) (.string t240)) (fun _ hk => hk.2) (.string t241)) (fun _ hk => ⟨⟨hk.1.1.1, hk.1.2⟩, hk.1.1.2⟩)) hg hat); have n4_ := Aside0.mk (blk_grown (g := gb213) (o := .cells #[.slice none 0 0, .slice none 0 0] 25 (0, 0)) (by (with_reducible repeat (fail)); refine blk_far ?_ NB213_243.out _; (with_reducible repeat (fail)); refine blk_far ?_ NB213_243.out _; (with_reducible repeat (fail)); refine blk_far ?_ NB213_243.out _; (with_reducible repeat (fail)); refine blk_far ?_ NB213_243.out _; (with_reducible repeat (fail)); exact BK213.out) hg (Kd.R_ne HO_9.out BK213.out (by decide))); have n5_ := Aside0.mk (blk_grown (g := gb214) (o := .cells #[.slice Ao41 x215000_8.length co41, u215001] 25 (0, 0)) (by (with_reducible repeat (fail)); refine blk_far ?_ NB214_243.out _; (with_reducible repeat (fail)); refine blk_far ?_ NB214_243.out _; (with_reducible repeat (fail)); refine blk_far ?_ NB214_243.out _; (with_reducible repeat (fail)); refine blk_far ?_ NB214_243.out _; (with_reducible repeat (fail)); exact BK214.out) hg (Kd.R_ne HO_9.out BK214.out (by decide))); have n6_ := Aside0.mk (blk_grown (g := gb243) (o := .cells #[.int .i64 t238, .string t239, .string t240, .string t241] 43 (0, 0)) (by (with_reducible repeat (fail)); refine blk_put (cs := #[.int .i64 t238, .string t239, .string t240, .string (⟨#[]⟩ : ByteArray)]) ?_ 3 _ rfl; (with_reducible repeat (fail)); refine blk_put (cs := #[.int .i64 t238, .string t239, .string (⟨#[]⟩ : ByteArray), .string (⟨#[]⟩ : ByteArray)]) ?_ 2 _ rfl; (with_reducible repeat (fail)); refine blk_put (cs := #[.int .i64 t238, .string (⟨#[]⟩ : ByteArray), .string (⟨#[]⟩ : ByteArray), .string (⟨#[]⟩ : ByteArray)]) ?_ 1 _ rfl; (with_reducible repeat (fail)); refine blk_put (cs := #[.int .i64 0, .string (⟨#[]⟩ : ByteArray), .string (⟨#[]⟩ : ByteArray), .string (⟨#[]⟩ : ByteArray)]) ?_ 0 _ rfl; (with_reducible repeat (fail)); exact BK243.out) hg (Kd.R_away HO_9.out (fun _ hk => hk.2))); have n7_ := Aside0.mk (hb); have n8_ := Aside0.mk (ho); clear HO_44; clear HO_55; clear HO_215000; clear HO_215001; clear BK213; clear BK214; clear BK243; clear HB; clear HO_9; have HO_44 := n0_; have HO_55 := n1_; have HO_215000 := n2_; have HO_215001 := n3_; have BK213 := n4_; have BK214 := n5_; have BK243 := n6_; have HB := n7_; have HO246 := n8_; clear n0_ n1_ n2_ n3_ n4_ n5_ n6_ n7_ n8_; clear ho hb hg hat))
                                  go_roundg k3
                                  case measure => have := HJ8.out; have := HK2.out; have := HK3.out; omega
                                  case rel => exact ⟨(y244), (wrap64 (x57_3 + 1)), (by rfl), H', ⟨by have := HJ8.out; have := HK2.out; have := HK3.out; omega⟩, ⟨by (with_reducible repeat (fail)); exact Kd.R_mono HO246.out (fun _ hk => hk.1)⟩, ⟨by (with_reducible repeat (fail)); exact Kd.V_mono HO_44.out (fun _ hk => ⟨hk.1.1, ⟨hk.2, ⟨hk.1.2.1, ⟨hk.1.2.2.1, ⟨hk.1.2.2.2.1, ⟨hk.1.2.2.2.2.1, hk.1.2.2.2.2.2.1⟩⟩⟩⟩⟩⟩)⟩, ⟨by (with_reducible repeat (fail)); exact HO_55.out⟩, ⟨by (with_reducible repeat (fail)); exact HO_215000.out⟩, ⟨by (with_reducible repeat (fail)); exact Kd.S_mono HO_215001.out (fun _ hk => ⟨hk.1.1, hk.2⟩)⟩, ⟨by (with_reducible repeat (fail)); exact BK213.out⟩, ⟨by (with_reducible repeat (fail)); exact BK214.out⟩, ⟨by repeat ((with_reducible exact HB.out))⟩⟩
                                rw [if_neg c49] at H
                                exact absurd H (by simp)
                              rw [if_neg c48] at H
                              have c48b0 : (t242 == 0) = false := beq_eq_false_iff_ne.mpr c48
                              have c48b1 : (t242 != 0) = true := bne_iff_ne.mpr c48
                              simp only [Option.some.injEq, Prod.mk.injEq] at H
                              obtain ⟨rfl, rfl, rfl⟩ := H
                              have p237 : 0 ≤ (x57_3 : Int) := of_decide_eq_true (by (with_reducible assumption))
                              have q237 : x57_3 < (t234.length : Int) := of_decide_eq_true (by (with_reducible assumption))
                              obtain ⟨ad237, e237, hx237_0⟩ := Kd.at_string (Kd.R_reads' HO_55.out).2.2 x57_3 p237 q237
                              cases e237
                              replace p237 := eq_true p237
                              replace q237 := eq_true q237
                              go_wp2_with (first | ((with_reducible refine gate_callee (f := 37) rfl ?_); refine goesL_ (some 63) rfl rfl Tryd.func37 (by kernel_rfl) rfl #[.string (rdOf ByteArray.empty t234 x57_3)] rfl (by (try simp only [List.map_toArray, List.map_cons, List.map_nil]); rfl) ?_; (with_reducible refine (term_Read.calls k3 (rdOf ByteArray.empty t234 x57_3) t238 t239 t240 t241 t242 _ A47.out).mono ?_); rintro e w56 ⟨rfl, hb⟩; refine ⟨_, rfl, ?_⟩; have n0_ := Aside0.mk (Kd.R_below (by (with_reducible repeat (fail)); exact HO_9.out) hb); have n1_ := Aside0.mk (Kd.V_below (by (with_reducible repeat (fail)); exact HO_44.out) hb); have n2_ := Aside0.mk (Kd.R_below (by (with_reducible repeat (fail)); exact HO_55.out) hb); have n3_ := Aside0.mk (Kd.R_below (by (with_reducible repeat (fail)); exact HO_215000.out) hb); have n4_ := Aside0.mk (Kd.S_below (by (with_reducible repeat (fail)); exact HO_215001.out) hb); have n5_ := Aside0.mk (blk_below (g := gb213) (o := .cells #[.slice none 0 0, .slice none 0 0] 25 (0, 0)) (by (with_reducible repeat (fail)); exact BK213.out) hb); have n6_ := Aside0.mk (blk_below (g := gb214) (o := .cells #[.slice Ao41 x215000_8.length co41, u215001] 25 (0, 0)) (by (with_reducible repeat (fail)); exact BK214.out) hb); have n7_ := Aside0.mk (below_step (by repeat ((with_reducible exact HB.out))) hb); clear HO_9; clear HO_44; clear HO_55; clear HO_215000; clear HO_215001; clear BK213; clear BK214; clear HB; have HO_9 := n0_; have HO_44 := n1_; have HO_55 := n2_; have HO_215000 := n3_; have HO_215001 := n4_; have BK213 := n5_; have BK214 := n6_; have HB := n7_; clear n0_ n1_ n2_ n3_ n4_ n5_ n6_ n7_; (try clear hb)) | ((with_reducible refine gate_dst (N := 12) rfl ?_); refine box_event ?hg (N := 12) ?hd (cs := #[.int .i64 0, .string (⟨#[]⟩ : ByteArray), .string (⟨#[]⟩ : ByteArray), .string (⟨#[]⟩ : ByteArray)]) (t := 43) ?hr ?_; (case hd => rfl); (case hg => rfl); (case hr => (go_simp; done)); intro gb243 hg w57 hbox hb; have n0_ := Aside0.mk (Kd.R_below (Kd.R_elderB (by (with_reducible repeat (fail)); exact HO_9.out) gb243 (Nat.le_of_eq hg.symm)) hb); have n1_ := Aside0.mk (Kd.V_below (Kd.V_elderB (by (with_reducible repeat (fail)); exact HO_44.out) gb243 (Nat.le_of_eq hg.symm)) hb); have n2_ := Aside0.mk (Kd.R_below (by (with_reducible repeat (fail)); exact HO_55.out) hb); have n3_ := Aside0.mk (Kd.R_below (by (with_reducible repeat (fail)); exact HO_215000.out) hb); have n4_ := Aside0.mk (Kd.S_below (Kd.S_elderB (by (with_reducible repeat (fail)); exact HO_215001.out) gb243 (Nat.le_of_eq hg.symm)) hb); have n5_ := Aside0.mk (blk_below (g := gb213) (o := .cells #[.slice none 0 0, .slice none 0 0] 25 (0, 0)) (by (with_reducible repeat (fail)); exact BK213.out) hb); have n6_ := Aside0.mk (blk_below (g := gb214) (o := .cells #[.slice Ao41 x215000_8.length co41, u215001] 25 (0, 0)) (by (with_reducible repeat (fail)); exact BK214.out) hb); have n7_ := Aside0.mk (below_step (by repeat ((with_reducible exact HB.out))) hb); have n8_ := Aside0.mk (hbox); have n9_ := Aside0.mk ((by rw [hg]; exact (below_size (by repeat ((with_reducible exact HB.out)))) : w.heap.size ≤ gb243)); have n10_ := Aside0.mk ((by rw [hg]; exact (below_size (by repeat ((with_reducible exact HB.out)))) : w.heap.size ≤ gb243)); have n11_ := Aside0.mk ((by rw [hg]; exact Nat.ne_of_lt (blk_lt (g := gb213) (o := .cells #[.slice none 0 0, .slice none 0 0] 25 (0, 0)) (by (with_reducible repeat (fail)); exact BK213.out)) : gb213 ≠ gb243)); have n12_ := Aside0.mk ((by rw [hg]; exact Nat.ne_of_gt (blk_lt (g := gb213) (o := .cells #[.slice none 0 0, .slice none 0 0] 25 (0, 0)) (by (with_reducible repeat (fail)); exact BK213.out)) : gb243 ≠ gb213)); have n13_ := Aside0.mk ((by rw [hg]; exact Nat.ne_of_lt (blk_lt (g := gb214) (o := .cells #[.slice Ao41 x215000_8.length co41, u215001] 25 (0, 0)) (by (with_reducible repeat (fail)); exact BK214.out)) : gb214 ≠ gb243)); have n14_ := Aside0.mk ((by rw [hg]; exact Nat.ne_of_gt (blk_lt (g := gb214) (o := .cells #[.slice Ao41 x215000_8.length co41, u215001] 25 (0, 0)) (by (with_reducible repeat (fail)); exact BK214.out)) : gb243 ≠ gb214)); clear HO_9; clear HO_44; clear HO_55; clear HO_215000; clear HO_215001; clear BK213; clear BK214; clear HB; have HO_9 := n0_; have HO_44 := n1_; have HO_55 := n2_; have HO_215000 := n3_; have HO_215001 := n4_; have BK213 := n5_; have BK214 := n6_; have HB := n7_; have BK243 := n8_; have GW243 := n9_; have GE243 := n10_; have NB213_243 := n11_; have NB243_213 := n12_; have NB214_243 := n13_; have NB243_214 := n14_; clear n0_ n1_ n2_ n3_ n4_ n5_ n6_ n7_ n8_ n9_ n10_ n11_ n12_ n13_ n14_; clear hb hbox hg; have hnb58 := NB243_213.out; have hnc58 := NB213_243.out; have hnb59 := NB243_214.out; have hnc59 := NB214_243.out; have hcz60_0 : w57.cell? ⟨gb243, 0, none⟩ = some (.int .i64 0) := (blk_cell BK243.out 0).trans rfl; have hcz60_1 : w57.cell? ⟨gb243, 1, none⟩ = some (.string (⟨#[]⟩ : ByteArray)) := (blk_cell BK243.out 1).trans rfl; have hcz60_2 : w57.cell? ⟨gb243, 2, none⟩ = some (.string (⟨#[]⟩ : ByteArray)) := (blk_cell BK243.out 2).trans rfl; have hcz60_3 : w57.cell? ⟨gb243, 3, none⟩ = some (.string (⟨#[]⟩ : ByteArray)) := (blk_cell BK243.out 3).trans rfl; have hfz60_0 := blk_frozen BK243.out 0; have hfz60_1 := blk_frozen BK243.out 1; have hfz60_2 := blk_frozen BK243.out 2; have hfz60_3 := blk_frozen BK243.out 3; have hnb61 := NB214_213.out; have hnc61 := NB213_214.out; have hcz62_0 : w57.cell? ⟨gb214, 0, none⟩ = some (.slice Ao41 x215000_8.length co41) := (blk_cell BK214.out 0).trans rfl; have hcz62_1 : w57.cell? ⟨gb214, 1, none⟩ = some (u215001) := (blk_cell BK214.out 1).trans rfl; have hfz62_0 := blk_frozen BK214.out 0; have hfz62_1 := blk_frozen BK214.out 1; have hcz63_0 : w57.cell? ⟨gb213, 0, none⟩ = some (.slice none 0 0) := (blk_cell BK213.out 0).trans rfl; have hcz63_1 : w57.cell? ⟨gb213, 1, none⟩ = some (.slice none 0 0) := (blk_cell BK213.out 1).trans rfl; have hfz63_0 := blk_frozen BK213.out 0; have hfz63_1 := blk_frozen BK213.out 1; obtain ⟨Ao64, co64, eo64⟩ := Kd.S_slice HO_215001.out; subst eo64))
                              refine bodyPost_ret (results_ct rfl _ _ gb213 25 #[.slice Ao41 x215000_8.length co41, .slice Ao64 x215001_2.length co64] (0, 0) _ rfl (by (with_reducible repeat (fail)); refine blk_put (cs := #[.slice Ao41 x215000_8.length co41, .slice none 0 0]) ?_ 1 _ rfl; (with_reducible repeat (fail)); refine blk_put (cs := #[.slice none 0 0, .slice none 0 0]) ?_ 0 _ rfl; (with_reducible repeat (fail)); refine blk_far ?_ NB213_243.out _; (with_reducible repeat (fail)); refine blk_far ?_ NB213_243.out _; (with_reducible repeat (fail)); refine blk_far ?_ NB213_243.out _; (with_reducible repeat (fail)); refine blk_far ?_ NB213_243.out _; (with_reducible repeat (fail)); exact BK213.out) Tryd.underlying25 rfl (by kernel_rfl)) rfl ?_
                              exact ⟨_, _, by rfl, by (with_reducible repeat (fail)); exact Kd.R_mono (Kd.R_far (p := ⟨gb213, 1, none⟩) (Kd.R_far (p := ⟨gb213, 0, none⟩) (Kd.R_far (p := ⟨gb243, 3, none⟩) (Kd.R_far (p := ⟨gb243, 2, none⟩) (Kd.R_far (p := ⟨gb243, 1, none⟩) (Kd.R_far (p := ⟨gb243, 0, none⟩) (Kd.R_types (Kd.R_types HO_215000.out BK243.out (by decide)) BK213.out (by decide)) (fun _ hk => hk.1.2) (.int .i64 t238)) (fun _ hk => hk.1.2) (.string t239)) (fun _ hk => hk.1.2) (.string t240)) (fun _ hk => hk.1.2) (.string t241)) (fun _ hk => hk.2) (.slice Ao41 x215000_8.length co41)) (fun _ hk => hk.2) (.slice Ao64 x215001_2.length co64)) (fun _ hk => hk.1.1.1), by (with_reducible repeat (fail)); exact Kd.S_mono (Kd.S_far (p := ⟨gb213, 1, none⟩) (Kd.S_far (p := ⟨gb213, 0, none⟩) (Kd.S_far (p := ⟨gb243, 3, none⟩) (Kd.S_far (p := ⟨gb243, 2, none⟩) (Kd.S_far (p := ⟨gb243, 1, none⟩) (Kd.S_far (p := ⟨gb243, 0, none⟩) (Kd.S_types (Kd.S_mono HO_215001.out (fun k_ hk => (⟨hk, hk.2⟩ : _ ∧ k_ ≠ gb243))) BK213.out (by decide)) (fun _ hk => hk.1.2) (.int .i64 t238)) (fun _ hk => hk.1.2) (.string t239)) (fun _ hk => hk.1.2) (.string t240)) (fun _ hk => hk.1.2) (.string t241)) (fun _ hk => hk.2) (.slice Ao41 x215000_8.length co41)) (fun _ hk => hk.2) (.slice Ao64 x215001_2.length co64)) (fun _ hk => hk.1.1.1.1), by repeat ((with_reducible first | exact HB.out | refine below_set ?_ GE213.out | refine below_set ?_ GE243.out))⟩
                            rw [if_neg c46] at H
                            exact absurd H (by simp)
                          rw [if_neg c45] at H
                          exact absurd H (by simp)
                        rw [if_neg c44] at H
                        have c44b0 : decide (x57_3 < (t234.length : Int)) = false := decide_eq_false c44
                        clear c44
                        by_cases c65 : x215001_2.length < 5864062014805
                        · rw [if_pos c65] at H
                          have LMc65 := Aside0.mk c65
                          clear c65
                          obtain ⟨y247, hy247⟩ : ∃ y_ : List (List (S43)), y_ = (x215001_2 ++ [x9_3]) := ⟨_, rfl⟩
                          replace H : (result_rows.l1 k3 y225 (y225.length : Int) (wrap64 (x46_2 + 1)) x215000_8 y247) = some (r1, r2, r3) := by (rw [hy247]; with_reducible exact H)
                          have Ny247 := Aside0.mk hy247
                          clear hy247
                          have H' := Aside0.mk H
                          clear H
                          have hnb66 := NB214_213.out
                          have hnc66 := NB213_214.out
                          have hcz67_0 : wr.cell? ⟨gb214, 0, none⟩ = some (.slice Ao41 x215000_8.length co41) := (blk_cell BK214.out 0).trans rfl
                          have hcz67_1 : wr.cell? ⟨gb214, 1, none⟩ = some (u215001) := (blk_cell BK214.out 1).trans rfl
                          have hfz67_0 := blk_frozen BK214.out 0
                          have hfz67_1 := blk_frozen BK214.out 1
                          obtain ⟨Ao69, co69, eo69⟩ := Kd.R_slice HO_9.out
                          subst eo69
                          go_wp2_with (((with_reducible refine gate_builtin (b := .append) (xs := #[.tmp 75, .tmp 77]) rfl ?_); at_builtin; refine Kd.S_append (Kd.slice 43 k43) (w0 := w) w.heap.size rfl (.tmp 75) (.tmp 77) 23 40 (.slice none 0 0) 24 rfl Tryd.underlying23 info40 rfl (by decide) (by omega) u215001 x215001_2 x9_3 [.slice Ao69 x9_3.length co69] (fun k_ => (w.heap.size ≤ k_)) (fun k_ => some k_ = (.slice Ao69 x9_3.length co69 : Value).ownBlock) rfl rfl ?aP (fun k_ hk_ => ((Kd.R_mono (ok' := fun k_ => ((fun k_ => (w.heap.size ≤ k_))) k_ ∧ some k_ ≠ (u215001 : Value).ownBlock) (Kd.R_apart' (HO_9.out) (Kd.S_typed HO_215001.out) (by decide)) (fun k_ hk => ⟨hk.1, hk.2⟩))).1 k_ hk_.symm) ?aF ?aO ?aB ?aS ?aL ?_; (case aP => exact Kd.M_row (Kd.R_mono (Kd.R_tight rfl (Kd.R_mono (ok' := fun k_ => ((fun k_ => (w.heap.size ≤ k_))) k_ ∧ some k_ ≠ (u215001 : Value).ownBlock) (Kd.R_apart' (HO_9.out) (Kd.S_typed HO_215001.out) (by decide)) (fun k_ hk => ⟨hk.1, hk.2⟩))) (fun _ h_ => h_))); (case aB => exact (by repeat ((with_reducible exact HB.out)))); (case aF => exact (fun k_ hk => (Nat.le_trans (below_size (by repeat ((with_reducible exact HB.out)))) hk))); (case aO => exact (by (with_reducible repeat (fail)); exact Kd.S_mono HO_215001.out (fun k_ hk => ⟨hk.1, fun e_ => hk.2 e_⟩))); (case aS => exact (below_size (by repeat ((with_reducible exact HB.out))))); (case aL => have := LMc65.out; omega); intro v248 w68 ho hb hg hat; rw [← Ny247.out] at ho; have n0_ := Aside0.mk (Kd.V_afterv (ok := (fun k_ => (P0_ k_ ∨ w.heap.size ≤ k_) ∧ some k_ ≠ (.slice Ao69 x9_3.length co69 : Value).ownBlock ∧ some k_ ≠ (.slice Ao43 t234.length co43 : Value).ownBlock ∧ some k_ ≠ (.slice Ao41 x215000_8.length co41 : Value).ownBlock ∧ k_ ≠ gb213 ∧ k_ ≠ gb214)) (by (with_reducible repeat (fail)); exact Kd.V_mono HO_44.out (fun _ hk => ⟨⟨hk.1, ⟨hk.2.1, ⟨hk.2.2.1, ⟨hk.2.2.2.1, ⟨hk.2.2.2.2.2.1, hk.2.2.2.2.2.2⟩⟩⟩⟩⟩, hk.2.2.2.2.1⟩)) hg hat); have n1_ := Aside0.mk (Kd.R_over' (by (with_reducible repeat (fail)); exact HO_55.out) (Kd.S_typed (by (with_reducible repeat (fail)); exact HO_215001.out)) (by decide) hg); have n2_ := Aside0.mk (Kd.R_over' (by (with_reducible repeat (fail)); exact HO_215000.out) (Kd.S_typed (by (with_reducible repeat (fail)); exact HO_215001.out)) (by decide) hg); have n3_ := Aside0.mk (blk_grown (g := gb213) (o := .cells #[.slice none 0 0, .slice none 0 0] 25 (0, 0)) (by (with_reducible repeat (fail)); exact BK213.out) hg (Kd.S_ne HO_215001.out BK213.out (by decide))); have n4_ := Aside0.mk (blk_grown (g := gb214) (o := .cells #[.slice Ao41 x215000_8.length co41, u215001] 25 (0, 0)) (by (with_reducible repeat (fail)); exact BK214.out) hg (Kd.S_ne HO_215001.out BK214.out (by decide))); have n5_ := Aside0.mk (hb); have n6_ := Aside0.mk (ho); clear HO_44; clear HO_55; clear HO_215000; clear BK213; clear BK214; clear HB; clear HO_215001; clear HO_9; have HO_44 := n0_; have HO_55 := n1_; have HO_215000 := n2_; have BK213 := n3_; have BK214 := n4_; have HB := n5_; have HO249 := n6_; clear n0_ n1_ n2_ n3_ n4_ n5_ n6_; clear ho hb hg hat; obtain ⟨Ao70, co70, eo70⟩ := Kd.S_slice HO249.out; subst eo70; have hcz71_0 : w68.cell? ⟨gb214, 0, none⟩ = some (.slice Ao41 x215000_8.length co41) := (blk_cell BK214.out 0).trans rfl; have hcz71_1 : w68.cell? ⟨gb214, 1, none⟩ = some (u215001) := (blk_cell BK214.out 1).trans rfl; have hfz71_0 := blk_frozen BK214.out 0; have hfz71_1 := blk_frozen BK214.out 1))
                          go_roundg k3
                          case measure => have := HJ8.out; have := HK2.out; have := HK3.out; omega
                          case rel => exact ⟨(wrap64 (x46_2 + 1)), (y247), (.slice Ao70 y247.length co70), (by rfl), H', ⟨by have := HJ8.out; have := HK2.out; have := HK3.out; omega⟩, ⟨by (with_reducible repeat (fail)); exact Kd.V_mono (Kd.V_far (p := ⟨gb214, 1, none⟩) (Kd.V_mono HO_44.out (fun k_ hk => (⟨hk, hk.1.2.2.2.2.2⟩ : _ ∧ k_ ≠ gb214))) (fun _ hk => hk.2) (.slice Ao70 y247.length co70)) (fun _ hk => ⟨hk.1.1.1, ⟨hk.1.1.2.2.2.1, ⟨hk.1.2, ⟨hk.1.1.2.2.2.2.1, hk.1.1.2.2.2.2.2⟩⟩⟩⟩)⟩, ⟨by (with_reducible repeat (fail)); exact Kd.R_mono (Kd.R_far (p := ⟨gb214, 1, none⟩) (Kd.R_types HO_215000.out BK214.out (by decide)) (fun _ hk => hk.2) (.slice Ao70 y247.length co70)) (fun _ hk => hk.1.1)⟩, ⟨by (with_reducible repeat (fail)); exact Kd.S_mono (Kd.S_far (p := ⟨gb214, 1, none⟩) (Kd.S_types HO249.out BK214.out (by decide)) (fun _ hk => hk.2) (.slice Ao70 y247.length co70)) (fun _ hk => hk.1)⟩, ⟨by (with_reducible repeat (fail)); refine blk_far ?_ NB213_214.out _; (with_reducible repeat (fail)); exact BK213.out⟩, ⟨by (with_reducible repeat (fail)); refine blk_put (cs := #[.slice Ao41 x215000_8.length co41, u215001]) ?_ 1 _ rfl; (with_reducible repeat (fail)); exact BK214.out⟩, ⟨by repeat ((with_reducible first | exact HB.out | refine below_set ?_ GE214.out))⟩⟩
                        rw [if_neg c65] at H
                        exact absurd H (by simp)
                  rw [if_neg c35] at H
                  exact absurd H (by simp)
                rw [if_neg c34] at H
                exact absurd H (by simp)
              rw [if_neg c33] at H
              have c33b0 : decide (x46_2 < (y225.length : Int)) = false := decide_eq_false c33
              clear c33
              simp only [Option.some.injEq, Prod.mk.injEq] at H
              obtain ⟨rfl, rfl, rfl⟩ := H
              have hnb72 := NB214_213.out
              have hnc72 := NB213_214.out
              have hcz73_0 : wr.cell? ⟨gb214, 0, none⟩ = some (u215000) := (blk_cell BK214.out 0).trans rfl
              have hcz73_1 : wr.cell? ⟨gb214, 1, none⟩ = some (u215001) := (blk_cell BK214.out 1).trans rfl
              have hfz73_0 := blk_frozen BK214.out 0
              have hfz73_1 := blk_frozen BK214.out 1
              obtain ⟨Ao74, co74, eo74⟩ := Kd.R_slice HO_215000.out
              subst eo74
              have hcz75_0 : wr.cell? ⟨gb213, 0, none⟩ = some (.slice none 0 0) := (blk_cell BK213.out 0).trans rfl
              have hcz75_1 : wr.cell? ⟨gb213, 1, none⟩ = some (.slice none 0 0) := (blk_cell BK213.out 1).trans rfl
              have hfz75_0 := blk_frozen BK213.out 0
              have hfz75_1 := blk_frozen BK213.out 1
              obtain ⟨Ao76, co76, eo76⟩ := Kd.S_slice HO_215001.out
              subst eo76
              go_wp2
              refine bodyPost_ret (results_ct rfl _ _ gb213 25 #[.slice Ao74 x215000_8.length co74, .slice Ao76 x215001_2.length co76] (0, 0) _ rfl (by (with_reducible repeat (fail)); refine blk_put (cs := #[.slice Ao74 x215000_8.length co74, .slice none 0 0]) ?_ 1 _ rfl; (with_reducible repeat (fail)); refine blk_put (cs := #[.slice none 0 0, .slice none 0 0]) ?_ 0 _ rfl; (with_reducible repeat (fail)); exact BK213.out) Tryd.underlying25 rfl (by kernel_rfl)) rfl ?_
              exact ⟨_, _, by rfl, by (with_reducible repeat (fail)); exact Kd.R_mono (Kd.R_far (p := ⟨gb213, 1, none⟩) (Kd.R_far (p := ⟨gb213, 0, none⟩) (Kd.R_types HO_215000.out BK213.out (by decide)) (fun _ hk => hk.2) (.slice Ao74 x215000_8.length co74)) (fun _ hk => hk.2) (.slice Ao76 x215001_2.length co76)) (fun _ hk => hk.1), by (with_reducible repeat (fail)); exact Kd.S_mono (Kd.S_far (p := ⟨gb213, 1, none⟩) (Kd.S_far (p := ⟨gb213, 0, none⟩) (Kd.S_types HO_215001.out BK213.out (by decide)) (fun _ hk => hk.2) (.slice Ao74 x215000_8.length co74)) (fun _ hk => hk.2) (.slice Ao76 x215001_2.length co76)) (fun _ hk => hk.1), by repeat ((with_reducible first | exact HB.out | refine below_set ?_ GE213.out))⟩
        rw [if_neg c31] at H
        exact absurd H (by simp)
  rw [if_neg c8] at H
  exact absurd H (by simp)
end Go.Proofs.YtgabadlneeffkaaDoor.B
