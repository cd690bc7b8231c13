-- Written by lp.py: a program of this session's over the kit's printer. Not trusted: Lean checks it.
import Derived.Test.YtgabadlneeffkaaDoorLVx0
import Derived.Test.YtgabadlneeffkaaDoorLVx3
import Derived.Test.YtgabadlneeffkaaDoorLVx9
namespace Go.Proofs.YtgabadlneeffkaaDoor.S
open Go.RowKit Go.Proofs.YtgabadlneeffkaaDoorW.PrintWords Go.Proofs.YtgabadlneeffkaaDoorW.PrintLast Go.Proofs.YtgabadlneeffkaaDoorW.PrintMore
attribute [local go_sem] max2_int min2_int max_two min_two max_three min_three max_four min_four
set_option linter.unusedVariables false
set_option linter.unusedSimpArgs false
mutual
def term_behind.j0 [Inhabited TP] : Nat → ByteArray → Int → Bool → Int → ByteArray → ByteArray → ByteArray → Option (Int × ByteArray × ByteArray × ByteArray × Int)
  | 0, _, _, _, _, _, _, _ => none
  | k + 1, x1, x2, x45, x183000, x183001, x183002, x183003 => if x45 = true then (term_behind.l0 k x1 x2 (wrap64 (x2 + 1)) x183000 x183001 x183002 x183003) else (some (x183000, x183001, x183002, x183003, x2))
def term_behind.l0 [Inhabited TP] : Nat → ByteArray → Int → Int → Int → ByteArray → ByteArray → ByteArray → Option (Int × ByteArray × ByteArray × ByteArray × Int)
  | 0, _, _, _, _, _, _, _ => none
  | k + 1, x1, x2, x10, x183000, x183001, x183002, x183003 => if x10 < (x1.size : Int) then (if 0 ≤ x10 then (if (bt x1 x10) ≥ 97 then (if (bt x1 x10) ≤ 122 then (term_behind.l0 k x1 x2 (wrap64 (x10 + 1)) x183000 x183001 x183002 x183003) else (if 0 ≤ (wrap64 (x2 + 1)) then (if (wrap64 (x2 + 1)) ≤ x10 then (if x10 ≤ (x1.size : Int) then ((term_isLang.f k (x1.extract ((wrap64 (x2 + 1)) : Int).toNat (x10 : Int).toNat)).bind fun t191 => (if t191 = true then (some (x183000, x183001, x183002, x1.extract ((wrap64 (x2 + 1)) : Int).toNat (x10 : Int).toNat, x10)) else (some (x183000, x183001, x183002, x183003, x2)))) else (none)) else (none)) else (none))) else (if 0 ≤ (wrap64 (x2 + 1)) then (if (wrap64 (x2 + 1)) ≤ x10 then (if x10 ≤ (x1.size : Int) then ((term_isLang.f k (x1.extract ((wrap64 (x2 + 1)) : Int).toNat (x10 : Int).toNat)).bind fun t192 => (if t192 = true then (some (x183000, x183001, x183002, x1.extract ((wrap64 (x2 + 1)) : Int).toNat (x10 : Int).toNat, x10)) else (some (x183000, x183001, x183002, x183003, x2)))) else (none)) else (none)) else (none))) else (none)) else (if 0 ≤ (wrap64 (x2 + 1)) then (if (wrap64 (x2 + 1)) ≤ x10 then (if x10 ≤ (x1.size : Int) then ((term_isLang.f k (x1.extract ((wrap64 (x2 + 1)) : Int).toNat (x10 : Int).toNat)).bind fun t193 => (if t193 = true then (some (x183000, x183001, x183002, x1.extract ((wrap64 (x2 + 1)) : Int).toNat (x10 : Int).toNat, x10)) else (some (x183000, x183001, x183002, x183003, x2)))) else (none)) else (none)) else (none))
end
def term_behind.f [Inhabited TP] (k : Nat) (a0_0 : Int) (a0_1 : ByteArray) (a0_2 : ByteArray) (a0_3 : ByteArray) (a1 : ByteArray) (a2 : Int) : Option (Int × ByteArray × ByteArray × ByteArray × Int) := if 0 ≤ a2 then (if a2 ≤ (a1.size : Int) then ((strings_HasPrefix.f (a1.extract (a2 : Int).toNat a1.size) (⟨#[94, 94]⟩ : ByteArray)).bind fun t184 => (if t184 = true then (if 0 ≤ (wrap64 (a2 + 2)) then (if (wrap64 (a2 + 2)) ≤ (a1.size : Int) then ((term_PrefixH.f (a1.extract ((wrap64 (a2 + 2)) : Int).toNat a1.size)).bind fun bt185 => (if bt185.1 = 1 then (some (a0_0, a0_1, bt185.2.1, a0_3, wrap64 ((wrap64 (a2 + 2)) + bt185.2.2.2.2))) else (some (a0_0, a0_1, a0_2, a0_3, a2)))) else (none)) else (none)) else (if a2 < (a1.size : Int) then (term_behind.j0 k a1 a2 ((bt a1 a2) == 64) a0_0 a0_1 a0_2 a0_3) else (term_behind.j0 k a1 a2 false a0_0 a0_1 a0_2 a0_3)))) else (none)) else (none)
set_option maxHeartbeats 8000000 in
set_option maxRecDepth 100000 in
theorem term_behind.calls [Inhabited TP] (k : Nat) (a0_0 : Int) (a0_1 : ByteArray) (a0_2 : ByteArray) (a0_3 : ByteArray) (a1 : ByteArray) (a2 : Int) (r1 : Int) (r2 : ByteArray) (r3 : ByteArray) (r4 : ByteArray) (r5 : Int) (w : World) (h : term_behind.f k a0_0 a0_1 a0_2 a0_3 a1 a2 = some (r1, r2, r3, r4, r5)) :
    Calls Tryd.prog 93 #[.agg #[.int .i64 a0_0, .string a0_1, .string a0_2, .string a0_3], .string a1, .int .i64 a2] w fun e w' => e = .returned (.tuple #[.agg #[.int .i64 r1, .string r2, .string r3, .string r4], .int .i64 r5]) ∧ Below w.heap.size w w' := by
  have hu43 := Tryd.underlying43
  have HB := Aside0.mk (Below.refl w.heap.size w)
  have H : (if 0 ≤ a2 then (if a2 ≤ (a1.size : Int) then ((strings_HasPrefix.f (a1.extract (a2 : Int).toNat a1.size) (⟨#[94, 94]⟩ : ByteArray)).bind fun t184 => (if t184 = true then (if 0 ≤ (wrap64 (a2 + 2)) then (if (wrap64 (a2 + 2)) ≤ (a1.size : Int) then ((term_PrefixH.f (a1.extract ((wrap64 (a2 + 2)) : Int).toNat a1.size)).bind fun bt185 => (if bt185.1 = 1 then (some (a0_0, a0_1, bt185.2.1, a0_3, wrap64 ((wrap64 (a2 + 2)) + bt185.2.2.2.2))) else (some (a0_0, a0_1, a0_2, a0_3, a2)))) else (none)) else (none)) else (if a2 < (a1.size : Int) then (term_behind.j0 k a1 a2 ((bt a1 a2) == 64) a0_0 a0_1 a0_2 a0_3) else (term_behind.j0 k a1 a2 false a0_0 a0_1 a0_2 a0_3)))) else (none)) else (none)) = some (r1, r2, r3, r4, r5) := h
  clear h
  by_cases c4 : 0 ≤ a2
  · rw [if_pos c4] at H
    have c4b0 := eq_true c4
    have c4b1 : decide (0 ≤ a2) = true := decide_eq_true c4
    clear c4
    by_cases c5 : a2 ≤ (a1.size : Int)
    · rw [if_pos c5] at H
      have c5b0 := eq_true c5
      have c5b1 : decide (a2 ≤ (a1.size : Int)) = true := decide_eq_true c5
      clear c5
      replace H := Option.bind_eq_some_iff.mp H
      obtain ⟨t184, A60, H⟩ := H
      replace H : (if t184 = true then (if 0 ≤ (wrap64 (a2 + 2)) then (if (wrap64 (a2 + 2)) ≤ (a1.size : Int) then ((term_PrefixH.f (a1.extract ((wrap64 (a2 + 2)) : Int).toNat a1.size)).bind fun bt185 => (if bt185.1 = 1 then (some (a0_0, a0_1, bt185.2.1, a0_3, wrap64 ((wrap64 (a2 + 2)) + bt185.2.2.2.2))) else (some (a0_0, a0_1, a0_2, a0_3, a2)))) else (none)) else (none)) else (if a2 < (a1.size : Int) then (term_behind.j0 k a1 a2 ((bt a1 a2) == 64) a0_0 a0_1 a0_2 a0_3) else (term_behind.j0 k a1 a2 false a0_0 a0_1 a0_2 a0_3))) = some (r1, r2, r3, r4, r5) := H
      have A6 := Aside0.mk A60
      clear A60
      by_cases c7 : t184 = true
      · subst c7
        have H1 : (if 0 ≤ (wrap64 (a2 + 2)) then (if (wrap64 (a2 + 2)) ≤ (a1.size : Int) then ((term_PrefixH.f (a1.extract ((wrap64 (a2 + 2)) : Int).toNat a1.size)).bind fun bt185 => (if bt185.1 = 1 then (some (a0_0, a0_1, bt185.2.1, a0_3, wrap64 ((wrap64 (a2 + 2)) + bt185.2.2.2.2))) else (some (a0_0, a0_1, a0_2, a0_3, a2)))) else (none)) else (none)) = some (r1, r2, r3, r4, r5) := by rw [if_pos rfl] at H; exact H
        clear H
        have H := H1
        clear H1
        obtain ⟨ji8, hji8⟩ : ∃ j_ : Int, (wrap64 (a2 + 2)) = j_ := ⟨_, rfl⟩
        replace H : (if 0 ≤ (ji8) then (if (ji8) ≤ (a1.size : Int) then ((term_PrefixH.f (a1.extract ((ji8) : Int).toNat a1.size)).bind fun bt185 => (if bt185.1 = 1 then (some (a0_0, a0_1, bt185.2.1, a0_3, wrap64 ((ji8) + bt185.2.2.2.2))) else (some (a0_0, a0_1, a0_2, a0_3, a2)))) else (none)) else (none)) = some (r1, r2, r3, r4, r5) := by (rw [hji8] at H; exact H)
        have hji8w : (IntKind.i64.wrap (a2 + 2)) = ji8 := (i64_w _).trans hji8
        by_cases c9 : 0 ≤ (ji8)
        · rw [if_pos c9] at H
          have c9b0 := eq_true c9
          have c9b1 : decide (0 ≤ (ji8)) = true := decide_eq_true c9
          clear c9
          by_cases c10 : (ji8) ≤ (a1.size : Int)
          · rw [if_pos c10] at H
            have c10b0 := eq_true c10
            have c10b1 : decide ((ji8) ≤ (a1.size : Int)) = true := decide_eq_true c10
            clear c10
            replace H := Option.bind_eq_some_iff.mp H
            obtain ⟨⟨t185, t186, t187, t188, t189⟩, A110, H⟩ := H
            replace H : (if t185 = 1 then (some (a0_0, a0_1, t186, a0_3, wrap64 ((ji8) + t189))) else (some (a0_0, a0_1, a0_2, a0_3, a2))) = some (r1, r2, r3, r4, r5) := H
            have A11 := Aside0.mk A110
            clear A110
            by_cases c12 : t185 = 1
            · rw [if_pos c12] at H
              have c12b0 : (t185 == 1) = true := beq_iff_eq.mpr c12
              have c12b1 : (t185 != 1) = false := bne_eq_false_iff_eq.mpr c12
              clear c12
              simp only [Option.some.injEq, Prod.mk.injEq] at H
              obtain ⟨rfl, rfl, rfl, rfl, rfl⟩ := H
              go_enter Tryd.func93, Tryd.ntmps93
              go_wp2_with (first | ((with_reducible refine gate_dst (N := 3) rfl ?_); refine box_event ?hg (N := 3) ?hd (cs := #[.int .i64 a0_0, .string a0_1, .string a0_2, .string a0_3]) (t := 43) ?hr ?_; (case hd => rfl); (case hg => rfl); (case hr => (go_simp; done)); intro gb182 hg w13 hbox hb; have n0_ := Aside0.mk (below_step (by repeat ((with_reducible exact HB.out))) hb); have n1_ := Aside0.mk (hbox); have n2_ := Aside0.mk ((by rw [hg]; exact (below_size (by repeat ((with_reducible exact HB.out)))) : w.heap.size ≤ gb182)); have n3_ := Aside0.mk ((by rw [hg]; exact (below_size (by repeat ((with_reducible exact HB.out)))) : w.heap.size ≤ gb182)); clear HB; have HB := n0_; have BK182 := n1_; have GW182 := n2_; have GE182 := n3_; clear n0_ n1_ n2_ n3_; clear hb hbox hg) | ((with_reducible refine gate_dst (N := 6) rfl ?_); refine box_event ?hg (N := 6) ?hd (cs := #[.int .i64 0, .string (⟨#[]⟩ : ByteArray), .string (⟨#[]⟩ : ByteArray), .string (⟨#[]⟩ : ByteArray)]) (t := 43) ?hr ?_; (case hd => rfl); (case hg => rfl); (case hr => (go_simp; done)); intro gb183 hg w14 hbox hb; have n0_ := Aside0.mk (blk_below (g := gb182) (o := .cells #[.int .i64 a0_0, .string a0_1, .string a0_2, .string a0_3] 43 (0, 0)) (by (with_reducible repeat (fail)); exact BK182.out) hb); have n1_ := Aside0.mk (below_step (by repeat ((with_reducible exact HB.out))) hb); have n2_ := Aside0.mk (hbox); have n3_ := Aside0.mk ((by rw [hg]; exact (below_size (by repeat ((with_reducible exact HB.out)))) : w.heap.size ≤ gb183)); have n4_ := Aside0.mk ((by rw [hg]; exact (below_size (by repeat ((with_reducible exact HB.out)))) : w.heap.size ≤ gb183)); have n5_ := Aside0.mk ((by rw [hg]; exact Nat.ne_of_lt (blk_lt (g := gb182) (o := .cells #[.int .i64 a0_0, .string a0_1, .string a0_2, .string a0_3] 43 (0, 0)) (by (with_reducible repeat (fail)); exact BK182.out)) : gb182 ≠ gb183)); have n6_ := Aside0.mk ((by rw [hg]; exact Nat.ne_of_gt (blk_lt (g := gb182) (o := .cells #[.int .i64 a0_0, .string a0_1, .string a0_2, .string a0_3] 43 (0, 0)) (by (with_reducible repeat (fail)); exact BK182.out)) : gb183 ≠ gb182)); clear BK182; clear HB; have BK182 := n0_; have HB := n1_; have BK183 := n2_; have GW183 := n3_; have GE183 := n4_; have NB182_183 := n5_; have NB183_182 := n6_; clear n0_ n1_ n2_ n3_ n4_ n5_ n6_; clear hb hbox hg) | ((with_reducible refine gate_callee (f := 20) rfl ?_); refine goesL_ (some 14) rfl rfl Tryd.func20 (by kernel_rfl) rfl #[.string (a1.extract (a2 : Int).toNat a1.size), .string (⟨#[94, 94]⟩ : ByteArray)] rfl (by (try simp only [List.map_toArray, List.map_cons, List.map_nil]); rfl) ?_; (with_reducible refine (strings_HasPrefix.calls (a1.extract (a2 : Int).toNat a1.size) (⟨#[94, 94]⟩ : ByteArray) true _ A6.out).mono ?_); rintro e w' ⟨rfl, ⟨nd, rfl⟩⟩; refine ⟨_, rfl, ?_⟩; (try (rw [drewN_self w14]; generalize hq_ : World.drewN w14 _ = w14; have n0_ : Aside0 (w14.heap[gb182]? = some (.cells #[.int .i64 a0_0, .string a0_1, .string a0_2, .string a0_3] 43 (0, 0))) := ⟨by rw [← hq_]; exact (by (with_reducible repeat (refine blk_drewN ?_ _)); exact BK182.out)⟩; have n1_ : Aside0 (w14.heap[gb183]? = some (.cells #[.int .i64 0, .string (⟨#[]⟩ : ByteArray), .string (⟨#[]⟩ : ByteArray), .string (⟨#[]⟩ : ByteArray)] 43 (0, 0))) := ⟨by rw [← hq_]; exact (by (with_reducible repeat (refine blk_drewN ?_ _)); exact BK183.out)⟩; have n2_ : Aside0 (Below w.heap.size w w14) := ⟨by rw [← hq_]; exact (by repeat ((with_reducible first | exact HB.out | apply pw_below_drewN)))⟩; clear BK182 BK183 HB hq_; have BK182 := n0_; have BK183 := n1_; have HB := n2_; clear n0_ n1_ n2_))) | ((with_reducible refine gate_callee (f := 58) rfl ?_); refine goesL_ (some 20) rfl rfl Tryd.func58 (by kernel_rfl) rfl #[.string (a1.extract ((ji8) : Int).toNat a1.size)] rfl (by (try simp only [List.map_toArray, List.map_cons, List.map_nil]); rfl) ?_; (with_reducible refine (term_PrefixH.calls (a1.extract ((ji8) : Int).toNat a1.size) t185 t186 t187 t188 t189 _ A11.out).mono ?_); rintro e w15 ⟨rfl, hb⟩; refine ⟨_, rfl, ?_⟩; have n0_ := Aside0.mk (blk_below (g := gb182) (o := .cells #[.int .i64 a0_0, .string a0_1, .string a0_2, .string a0_3] 43 (0, 0)) (by (with_reducible repeat (fail)); exact BK182.out) hb); have n1_ := Aside0.mk (blk_below (g := gb183) (o := .cells #[.int .i64 0, .string (⟨#[]⟩ : ByteArray), .string (⟨#[]⟩ : ByteArray), .string (⟨#[]⟩ : ByteArray)] 43 (0, 0)) (by (with_reducible repeat (fail)); exact BK183.out) hb); have n2_ := Aside0.mk (below_step (by repeat ((with_reducible exact HB.out))) hb); clear BK182; clear BK183; clear HB; have BK182 := n0_; have BK183 := n1_; have HB := n2_; clear n0_ n1_ n2_; (try clear hb)) | ((with_reducible refine gate_dst (N := 8) rfl ?_); refine box_event ?hg (N := 8) ?hd (cs := #[.int .i64 0, .string (⟨#[]⟩ : ByteArray), .string (⟨#[]⟩ : ByteArray), .string (⟨#[]⟩ : ByteArray)]) (t := 43) ?hr ?_; (case hd => rfl); (case hg => rfl); (case hr => (go_simp; done)); intro gb190 hg w16 hbox hb; have n0_ := Aside0.mk (blk_below (g := gb182) (o := .cells #[.int .i64 a0_0, .string a0_1, .string a0_2, .string a0_3] 43 (0, 0)) (by (with_reducible repeat (fail)); exact BK182.out) hb); have n1_ := Aside0.mk (blk_below (g := gb183) (o := .cells #[.int .i64 0, .string (⟨#[]⟩ : ByteArray), .string (⟨#[]⟩ : ByteArray), .string (⟨#[]⟩ : ByteArray)] 43 (0, 0)) (by (with_reducible repeat (fail)); exact BK183.out) hb); have n2_ := Aside0.mk (below_step (by repeat ((with_reducible exact HB.out))) hb); have n3_ := Aside0.mk (hbox); have n4_ := Aside0.mk ((by rw [hg]; exact (below_size (by repeat ((with_reducible exact HB.out)))) : w.heap.size ≤ gb190)); have n5_ := Aside0.mk ((by rw [hg]; exact (below_size (by repeat ((with_reducible exact HB.out)))) : w.heap.size ≤ gb190)); have n6_ := Aside0.mk ((by rw [hg]; exact Nat.ne_of_lt (blk_lt (g := gb182) (o := .cells #[.int .i64 a0_0, .string a0_1, .string a0_2, .string a0_3] 43 (0, 0)) (by (with_reducible repeat (fail)); exact BK182.out)) : gb182 ≠ gb190)); have n7_ := Aside0.mk ((by rw [hg]; exact Nat.ne_of_gt (blk_lt (g := gb182) (o := .cells #[.int .i64 a0_0, .string a0_1, .string a0_2, .string a0_3] 43 (0, 0)) (by (with_reducible repeat (fail)); exact BK182.out)) : gb190 ≠ gb182)); have n8_ := Aside0.mk ((by rw [hg]; exact Nat.ne_of_lt (blk_lt (g := gb183) (o := .cells #[.int .i64 0, .string (⟨#[]⟩ : ByteArray), .string (⟨#[]⟩ : ByteArray), .string (⟨#[]⟩ : ByteArray)] 43 (0, 0)) (by (with_reducible repeat (fail)); exact BK183.out)) : gb183 ≠ gb190)); have n9_ := Aside0.mk ((by rw [hg]; exact Nat.ne_of_gt (blk_lt (g := gb183) (o := .cells #[.int .i64 0, .string (⟨#[]⟩ : ByteArray), .string (⟨#[]⟩ : ByteArray), .string (⟨#[]⟩ : ByteArray)] 43 (0, 0)) (by (with_reducible repeat (fail)); exact BK183.out)) : gb190 ≠ gb183)); clear BK182; clear BK183; clear HB; have BK182 := n0_; have BK183 := n1_; have HB := n2_; have BK190 := n3_; have GW190 := n4_; have GE190 := n5_; have NB182_190 := n6_; have NB190_182 := n7_; have NB183_190 := n8_; have NB190_183 := n9_; clear n0_ n1_ n2_ n3_ n4_ n5_ n6_ n7_ n8_ n9_; clear hb hbox hg; have hnb17 := NB190_182.out; have hnc17 := NB182_190.out; have hnb18 := NB190_183.out; have hnc18 := NB183_190.out; have hcz19_0 : w16.cell? ⟨gb190, 0, none⟩ = some (.int .i64 0) := (blk_cell BK190.out 0).trans rfl; have hcz19_1 : w16.cell? ⟨gb190, 1, none⟩ = some (.string (⟨#[]⟩ : ByteArray)) := (blk_cell BK190.out 1).trans rfl; have hcz19_2 : w16.cell? ⟨gb190, 2, none⟩ = some (.string (⟨#[]⟩ : ByteArray)) := (blk_cell BK190.out 2).trans rfl; have hcz19_3 : w16.cell? ⟨gb190, 3, none⟩ = some (.string (⟨#[]⟩ : ByteArray)) := (blk_cell BK190.out 3).trans rfl; have hfz19_0 := blk_frozen BK190.out 0; have hfz19_1 := blk_frozen BK190.out 1; have hfz19_2 := blk_frozen BK190.out 2; have hfz19_3 := blk_frozen BK190.out 3; have hnb20 := NB182_183.out; have hnc20 := NB183_182.out; have hcz21_0 : w16.cell? ⟨gb182, 0, none⟩ = some (.int .i64 a0_0) := (blk_cell BK182.out 0).trans rfl; have hcz21_1 : w16.cell? ⟨gb182, 1, none⟩ = some (.string a0_1) := (blk_cell BK182.out 1).trans rfl; have hcz21_2 : w16.cell? ⟨gb182, 2, none⟩ = some (.string a0_2) := (blk_cell BK182.out 2).trans rfl; have hcz21_3 : w16.cell? ⟨gb182, 3, none⟩ = some (.string a0_3) := (blk_cell BK182.out 3).trans rfl; have hfz21_0 := blk_frozen BK182.out 0; have hfz21_1 := blk_frozen BK182.out 1; have hfz21_2 := blk_frozen BK182.out 2; have hfz21_3 := blk_frozen BK182.out 3; have hcz22_0 : w16.cell? ⟨gb183, 0, none⟩ = some (.int .i64 0) := (blk_cell BK183.out 0).trans rfl; have hcz22_1 : w16.cell? ⟨gb183, 1, none⟩ = some (.string (⟨#[]⟩ : ByteArray)) := (blk_cell BK183.out 1).trans rfl; have hcz22_2 : w16.cell? ⟨gb183, 2, none⟩ = some (.string (⟨#[]⟩ : ByteArray)) := (blk_cell BK183.out 2).trans rfl; have hcz22_3 : w16.cell? ⟨gb183, 3, none⟩ = some (.string (⟨#[]⟩ : ByteArray)) := (blk_cell BK183.out 3).trans rfl; have hfz22_0 := blk_frozen BK183.out 0; have hfz22_1 := blk_frozen BK183.out 1; have hfz22_2 := blk_frozen BK183.out 2; have hfz22_3 := blk_frozen BK183.out 3))
              refine bodyPost_ret (results_ct rfl _ _ gb183 43 #[.int .i64 a0_0, .string a0_1, .string t186, .string a0_3] (0, 0) _ rfl (by (with_reducible repeat (fail)); refine blk_put (cs := #[.int .i64 a0_0, .string a0_1, .string t186, .string (⟨#[]⟩ : ByteArray)]) ?_ 3 _ rfl; (with_reducible repeat (fail)); refine blk_put (cs := #[.int .i64 a0_0, .string a0_1, .string (⟨#[]⟩ : ByteArray), .string (⟨#[]⟩ : ByteArray)]) ?_ 2 _ rfl; (with_reducible repeat (fail)); refine blk_put (cs := #[.int .i64 a0_0, .string (⟨#[]⟩ : ByteArray), .string (⟨#[]⟩ : ByteArray), .string (⟨#[]⟩ : ByteArray)]) ?_ 1 _ rfl; (with_reducible repeat (fail)); refine blk_put (cs := #[.int .i64 0, .string (⟨#[]⟩ : ByteArray), .string (⟨#[]⟩ : ByteArray), .string (⟨#[]⟩ : ByteArray)]) ?_ 0 _ rfl; (with_reducible repeat (fail)); refine blk_far ?_ NB183_182.out _; (with_reducible repeat (fail)); refine blk_far ?_ NB183_190.out _; (with_reducible repeat (fail)); refine blk_far ?_ NB183_190.out _; (with_reducible repeat (fail)); refine blk_far ?_ NB183_190.out _; (with_reducible repeat (fail)); refine blk_far ?_ NB183_190.out _; (with_reducible repeat (fail)); exact BK183.out) Tryd.underlying43 rfl (by kernel_rfl)) rfl ?_
              exact ⟨by rfl, by repeat ((with_reducible first | exact HB.out | refine below_set ?_ GE182.out | refine below_set ?_ GE183.out | refine below_set ?_ GE190.out))⟩
            rw [if_neg c12] at H
            have c12b0 : (t185 == 1) = false := beq_eq_false_iff_ne.mpr c12
            have c12b1 : (t185 != 1) = true := bne_iff_ne.mpr c12
            simp only [Option.some.injEq, Prod.mk.injEq] at H
            obtain ⟨rfl, rfl, rfl, rfl, rfl⟩ := H
            go_enter Tryd.func93, Tryd.ntmps93
            go_wp2_with (first | ((with_reducible refine gate_dst (N := 3) rfl ?_); refine box_event ?hg (N := 3) ?hd (cs := #[.int .i64 a0_0, .string a0_1, .string a0_2, .string a0_3]) (t := 43) ?hr ?_; (case hd => rfl); (case hg => rfl); (case hr => (go_simp; done)); intro gb182 hg w23 hbox hb; have n0_ := Aside0.mk (below_step (by repeat ((with_reducible exact HB.out))) hb); have n1_ := Aside0.mk (hbox); have n2_ := Aside0.mk ((by rw [hg]; exact (below_size (by repeat ((with_reducible exact HB.out)))) : w.heap.size ≤ gb182)); have n3_ := Aside0.mk ((by rw [hg]; exact (below_size (by repeat ((with_reducible exact HB.out)))) : w.heap.size ≤ gb182)); clear HB; have HB := n0_; have BK182 := n1_; have GW182 := n2_; have GE182 := n3_; clear n0_ n1_ n2_ n3_; clear hb hbox hg) | ((with_reducible refine gate_dst (N := 6) rfl ?_); refine box_event ?hg (N := 6) ?hd (cs := #[.int .i64 0, .string (⟨#[]⟩ : ByteArray), .string (⟨#[]⟩ : ByteArray), .string (⟨#[]⟩ : ByteArray)]) (t := 43) ?hr ?_; (case hd => rfl); (case hg => rfl); (case hr => (go_simp; done)); intro gb183 hg w24 hbox hb; have n0_ := Aside0.mk (blk_below (g := gb182) (o := .cells #[.int .i64 a0_0, .string a0_1, .string a0_2, .string a0_3] 43 (0, 0)) (by (with_reducible repeat (fail)); exact BK182.out) hb); have n1_ := Aside0.mk (below_step (by repeat ((with_reducible exact HB.out))) hb); have n2_ := Aside0.mk (hbox); have n3_ := Aside0.mk ((by rw [hg]; exact (below_size (by repeat ((with_reducible exact HB.out)))) : w.heap.size ≤ gb183)); have n4_ := Aside0.mk ((by rw [hg]; exact (below_size (by repeat ((with_reducible exact HB.out)))) : w.heap.size ≤ gb183)); have n5_ := Aside0.mk ((by rw [hg]; exact Nat.ne_of_lt (blk_lt (g := gb182) (o := .cells #[.int .i64 a0_0, .string a0_1, .string a0_2, .string a0_3] 43 (0, 0)) (by (with_reducible repeat (fail)); exact BK182.out)) : gb182 ≠ gb183)); have n6_ := Aside0.mk ((by rw [hg]; exact Nat.ne_of_gt (blk_lt (g := gb182) (o := .cells #[.int .i64 a0_0, .string a0_1, .string a0_2, .string a0_3] 43 (0, 0)) (by (with_reducible repeat (fail)); exact BK182.out)) : gb183 ≠ gb182)); clear BK182; clear HB; have BK182 := n0_; have HB := n1_; have BK183 := n2_; have GW183 := n3_; have GE183 := n4_; have NB182_183 := n5_; have NB183_182 := n6_; clear n0_ n1_ n2_ n3_ n4_ n5_ n6_; clear hb hbox hg) | ((with_reducible refine gate_callee (f := 20) rfl ?_); refine goesL_ (some 14) rfl rfl Tryd.func20 (by kernel_rfl) rfl #[.string (a1.extract (a2 : Int).toNat a1.size), .string (⟨#[94, 94]⟩ : ByteArray)] rfl (by (try simp only [List.map_toArray, List.map_cons, List.map_nil]); rfl) ?_; (with_reducible refine (strings_HasPrefix.calls (a1.extract (a2 : Int).toNat a1.size) (⟨#[94, 94]⟩ : ByteArray) true _ A6.out).mono ?_); rintro e w' ⟨rfl, ⟨nd, rfl⟩⟩; refine ⟨_, rfl, ?_⟩; (try (rw [drewN_self w24]; generalize hq_ : World.drewN w24 _ = w24; have n0_ : Aside0 (w24.heap[gb182]? = some (.cells #[.int .i64 a0_0, .string a0_1, .string a0_2, .string a0_3] 43 (0, 0))) := ⟨by rw [← hq_]; exact (by (with_reducible repeat (refine blk_drewN ?_ _)); exact BK182.out)⟩; have n1_ : Aside0 (w24.heap[gb183]? = some (.cells #[.int .i64 0, .string (⟨#[]⟩ : ByteArray), .string (⟨#[]⟩ : ByteArray), .string (⟨#[]⟩ : ByteArray)] 43 (0, 0))) := ⟨by rw [← hq_]; exact (by (with_reducible repeat (refine blk_drewN ?_ _)); exact BK183.out)⟩; have n2_ : Aside0 (Below w.heap.size w w24) := ⟨by rw [← hq_]; exact (by repeat ((with_reducible first | exact HB.out | apply pw_below_drewN)))⟩; clear BK182 BK183 HB hq_; have BK182 := n0_; have BK183 := n1_; have HB := n2_; clear n0_ n1_ n2_))) | ((with_reducible refine gate_callee (f := 58) rfl ?_); refine goesL_ (some 20) rfl rfl Tryd.func58 (by kernel_rfl) rfl #[.string (a1.extract ((ji8) : Int).toNat a1.size)] rfl (by (try simp only [List.map_toArray, List.map_cons, List.map_nil]); rfl) ?_; (with_reducible refine (term_PrefixH.calls (a1.extract ((ji8) : Int).toNat a1.size) t185 t186 t187 t188 t189 _ A11.out).mono ?_); rintro e w25 ⟨rfl, hb⟩; refine ⟨_, rfl, ?_⟩; have n0_ := Aside0.mk (blk_below (g := gb182) (o := .cells #[.int .i64 a0_0, .string a0_1, .string a0_2, .string a0_3] 43 (0, 0)) (by (with_reducible repeat (fail)); exact BK182.out) hb); have n1_ := Aside0.mk (blk_below (g := gb183) (o := .cells #[.int .i64 0, .string (⟨#[]⟩ : ByteArray), .string (⟨#[]⟩ : ByteArray), .string (⟨#[]⟩ : ByteArray)] 43 (0, 0)) (by (with_reducible repeat (fail)); exact BK183.out) hb); have n2_ := Aside0.mk (below_step (by repeat ((with_reducible exact HB.out))) hb); clear BK182; clear BK183; clear HB; have BK182 := n0_; have BK183 := n1_; have HB := n2_; clear n0_ n1_ n2_; (try clear hb)) | ((with_reducible refine gate_dst (N := 8) rfl ?_); refine box_event ?hg (N := 8) ?hd (cs := #[.int .i64 0, .string (⟨#[]⟩ : ByteArray), .string (⟨#[]⟩ : ByteArray), .string (⟨#[]⟩ : ByteArray)]) (t := 43) ?hr ?_; (case hd => rfl); (case hg => rfl); (case hr => (go_simp; done)); intro gb190 hg w26 hbox hb; have n0_ := Aside0.mk (blk_below (g := gb182) (o := .cells #[.int .i64 a0_0, .string a0_1, .string a0_2, .string a0_3] 43 (0, 0)) (by (with_reducible repeat (fail)); exact BK182.out) hb); have n1_ := Aside0.mk (blk_below (g := gb183) (o := .cells #[.int .i64 0, .string (⟨#[]⟩ : ByteArray), .string (⟨#[]⟩ : ByteArray), .string (⟨#[]⟩ : ByteArray)] 43 (0, 0)) (by (with_reducible repeat (fail)); exact BK183.out) hb); have n2_ := Aside0.mk (below_step (by repeat ((with_reducible exact HB.out))) hb); have n3_ := Aside0.mk (hbox); have n4_ := Aside0.mk ((by rw [hg]; exact (below_size (by repeat ((with_reducible exact HB.out)))) : w.heap.size ≤ gb190)); have n5_ := Aside0.mk ((by rw [hg]; exact (below_size (by repeat ((with_reducible exact HB.out)))) : w.heap.size ≤ gb190)); have n6_ := Aside0.mk ((by rw [hg]; exact Nat.ne_of_lt (blk_lt (g := gb182) (o := .cells #[.int .i64 a0_0, .string a0_1, .string a0_2, .string a0_3] 43 (0, 0)) (by (with_reducible repeat (fail)); exact BK182.out)) : gb182 ≠ gb190)); have n7_ := Aside0.mk ((by rw [hg]; exact Nat.ne_of_gt (blk_lt (g := gb182) (o := .cells #[.int .i64 a0_0, .string a0_1, .string a0_2, .string a0_3] 43 (0, 0)) (by (with_reducible repeat (fail)); exact BK182.out)) : gb190 ≠ gb182)); have n8_ := Aside0.mk ((by rw [hg]; exact Nat.ne_of_lt (blk_lt (g := gb183) (o := .cells #[.int .i64 0, .string (⟨#[]⟩ : ByteArray), .string (⟨#[]⟩ : ByteArray), .string (⟨#[]⟩ : ByteArray)] 43 (0, 0)) (by (with_reducible repeat (fail)); exact BK183.out)) : gb183 ≠ gb190)); have n9_ := Aside0.mk ((by rw [hg]; exact Nat.ne_of_gt (blk_lt (g := gb183) (o := .cells #[.int .i64 0, .string (⟨#[]⟩ : ByteArray), .string (⟨#[]⟩ : ByteArray), .string (⟨#[]⟩ : ByteArray)] 43 (0, 0)) (by (with_reducible repeat (fail)); exact BK183.out)) : gb190 ≠ gb183)); clear BK182; clear BK183; clear HB; have BK182 := n0_; have BK183 := n1_; have HB := n2_; have BK190 := n3_; have GW190 := n4_; have GE190 := n5_; have NB182_190 := n6_; have NB190_182 := n7_; have NB183_190 := n8_; have NB190_183 := n9_; clear n0_ n1_ n2_ n3_ n4_ n5_ n6_ n7_ n8_ n9_; clear hb hbox hg; have hnb27 := NB190_182.out; have hnc27 := NB182_190.out; have hnb28 := NB190_183.out; have hnc28 := NB183_190.out; have hcz29_0 : w26.cell? ⟨gb190, 0, none⟩ = some (.int .i64 0) := (blk_cell BK190.out 0).trans rfl; have hcz29_1 : w26.cell? ⟨gb190, 1, none⟩ = some (.string (⟨#[]⟩ : ByteArray)) := (blk_cell BK190.out 1).trans rfl; have hcz29_2 : w26.cell? ⟨gb190, 2, none⟩ = some (.string (⟨#[]⟩ : ByteArray)) := (blk_cell BK190.out 2).trans rfl; have hcz29_3 : w26.cell? ⟨gb190, 3, none⟩ = some (.string (⟨#[]⟩ : ByteArray)) := (blk_cell BK190.out 3).trans rfl; have hfz29_0 := blk_frozen BK190.out 0; have hfz29_1 := blk_frozen BK190.out 1; have hfz29_2 := blk_frozen BK190.out 2; have hfz29_3 := blk_frozen BK190.out 3; have hnb30 := NB182_183.out; have hnc30 := NB183_182.out; have hcz31_0 : w26.cell? ⟨gb182, 0, none⟩ = some (.int .i64 a0_0) := (blk_cell BK182.out 0).trans rfl; have hcz31_1 : w26.cell? ⟨gb182, 1, none⟩ = some (.string a0_1) := (blk_cell BK182.out 1).trans rfl; have hcz31_2 : w26.cell? ⟨gb182, 2, none⟩ = some (.string a0_2) := (blk_cell BK182.out 2).trans rfl; have hcz31_3 : w26.cell? ⟨gb182, 3, none⟩ = some (.string a0_3) := (blk_cell BK182.out 3).trans rfl; have hfz31_0 := blk_frozen BK182.out 0; have hfz31_1 := blk_frozen BK182.out 1; have hfz31_2 := blk_frozen BK182.out 2; have hfz31_3 := blk_frozen BK182.out 3; have hcz32_0 : w26.cell? ⟨gb183, 0, none⟩ = some (.int .i64 0) := (blk_cell BK183.out 0).trans rfl; have hcz32_1 : w26.cell? ⟨gb183, 1, none⟩ = some (.string (⟨#[]⟩ : ByteArray)) := (blk_cell BK183.out 1).trans rfl; have hcz32_2 : w26.cell? ⟨gb183, 2, none⟩ = some (.string (⟨#[]⟩ : ByteArray)) := (blk_cell BK183.out 2).trans rfl; have hcz32_3 : w26.cell? ⟨gb183, 3, none⟩ = some (.string (⟨#[]⟩ : ByteArray)) := (blk_cell BK183.out 3).trans rfl; have hfz32_0 := blk_frozen BK183.out 0; have hfz32_1 := blk_frozen BK183.out 1; have hfz32_2 := blk_frozen BK183.out 2; have hfz32_3 := blk_frozen BK183.out 3))
            refine bodyPost_ret (results_ct rfl _ _ gb183 43 #[.int .i64 a0_0, .string a0_1, .string a0_2, .string a0_3] (0, 0) _ rfl (by (with_reducible repeat (fail)); refine blk_put (cs := #[.int .i64 a0_0, .string a0_1, .string a0_2, .string (⟨#[]⟩ : ByteArray)]) ?_ 3 _ rfl; (with_reducible repeat (fail)); refine blk_put (cs := #[.int .i64 a0_0, .string a0_1, .string (⟨#[]⟩ : ByteArray), .string (⟨#[]⟩ : ByteArray)]) ?_ 2 _ rfl; (with_reducible repeat (fail)); refine blk_put (cs := #[.int .i64 a0_0, .string (⟨#[]⟩ : ByteArray), .string (⟨#[]⟩ : ByteArray), .string (⟨#[]⟩ : ByteArray)]) ?_ 1 _ rfl; (with_reducible repeat (fail)); refine blk_put (cs := #[.int .i64 0, .string (⟨#[]⟩ : ByteArray), .string (⟨#[]⟩ : ByteArray), .string (⟨#[]⟩ : ByteArray)]) ?_ 0 _ rfl; (with_reducible repeat (fail)); refine blk_far ?_ NB183_190.out _; (with_reducible repeat (fail)); refine blk_far ?_ NB183_190.out _; (with_reducible repeat (fail)); refine blk_far ?_ NB183_190.out _; (with_reducible repeat (fail)); refine blk_far ?_ NB183_190.out _; (with_reducible repeat (fail)); exact BK183.out) Tryd.underlying43 rfl (by kernel_rfl)) rfl ?_
            exact ⟨by rfl, by repeat ((with_reducible first | exact HB.out | refine below_set ?_ GE183.out | refine below_set ?_ GE190.out))⟩
          rw [if_neg c10] at H
          exact absurd H (by simp)
        rw [if_neg c9] at H
        exact absurd H (by simp)
      replace c7 := Bool.eq_false_iff.mpr c7
      subst c7
      have H1 : (if a2 < (a1.size : Int) then (term_behind.j0 k a1 a2 ((bt a1 a2) == 64) a0_0 a0_1 a0_2 a0_3) else (term_behind.j0 k a1 a2 false a0_0 a0_1 a0_2 a0_3)) = some (r1, r2, r3, r4, r5) := by rw [if_neg (show ¬ (false = true) by decide)] at H; exact H
      clear H
      have H := H1
      clear H1
      have HC33 := Aside0.mk H
      clear H
      go_enter Tryd.func93, Tryd.ntmps93
      go_upto_region 7 with (first | ((with_reducible refine gate_dst (N := 3) rfl ?_); refine box_event ?hg (N := 3) ?hd (cs := #[.int .i64 a0_0, .string a0_1, .string a0_2, .string a0_3]) (t := 43) ?hr ?_; (case hd => rfl); (case hg => rfl); (case hr => (go_simp; done)); intro gb182 hg w34 hbox hb; have n0_ := Aside0.mk (below_step (by repeat ((with_reducible exact HB.out))) hb); have n1_ := Aside0.mk (hbox); have n2_ := Aside0.mk ((by rw [hg]; exact (below_size (by repeat ((with_reducible exact HB.out)))) : w.heap.size ≤ gb182)); have n3_ := Aside0.mk ((by rw [hg]; exact (below_size (by repeat ((with_reducible exact HB.out)))) : w.heap.size ≤ gb182)); clear HB; have HB := n0_; have BK182 := n1_; have GW182 := n2_; have GE182 := n3_; clear n0_ n1_ n2_ n3_; clear hb hbox hg) | ((with_reducible refine gate_dst (N := 6) rfl ?_); refine box_event ?hg (N := 6) ?hd (cs := #[.int .i64 0, .string (⟨#[]⟩ : ByteArray), .string (⟨#[]⟩ : ByteArray), .string (⟨#[]⟩ : ByteArray)]) (t := 43) ?hr ?_; (case hd => rfl); (case hg => rfl); (case hr => (go_simp; done)); intro gb183 hg w35 hbox hb; have n0_ := Aside0.mk (blk_below (g := gb182) (o := .cells #[.int .i64 a0_0, .string a0_1, .string a0_2, .string a0_3] 43 (0, 0)) (by (with_reducible repeat (fail)); exact BK182.out) hb); have n1_ := Aside0.mk (below_step (by repeat ((with_reducible exact HB.out))) hb); have n2_ := Aside0.mk (hbox); have n3_ := Aside0.mk ((by rw [hg]; exact (below_size (by repeat ((with_reducible exact HB.out)))) : w.heap.size ≤ gb183)); have n4_ := Aside0.mk ((by rw [hg]; exact (below_size (by repeat ((with_reducible exact HB.out)))) : w.heap.size ≤ gb183)); have n5_ := Aside0.mk ((by rw [hg]; exact Nat.ne_of_lt (blk_lt (g := gb182) (o := .cells #[.int .i64 a0_0, .string a0_1, .string a0_2, .string a0_3] 43 (0, 0)) (by (with_reducible repeat (fail)); exact BK182.out)) : gb182 ≠ gb183)); have n6_ := Aside0.mk ((by rw [hg]; exact Nat.ne_of_gt (blk_lt (g := gb182) (o := .cells #[.int .i64 a0_0, .string a0_1, .string a0_2, .string a0_3] 43 (0, 0)) (by (with_reducible repeat (fail)); exact BK182.out)) : gb183 ≠ gb182)); clear BK182; clear HB; have BK182 := n0_; have HB := n1_; have BK183 := n2_; have GW183 := n3_; have GE183 := n4_; have NB182_183 := n5_; have NB183_182 := n6_; clear n0_ n1_ n2_ n3_ n4_ n5_ n6_; clear hb hbox hg) | ((with_reducible refine gate_callee (f := 20) rfl ?_); refine goesL_ (some 14) rfl rfl Tryd.func20 (by kernel_rfl) rfl #[.string (a1.extract (a2 : Int).toNat a1.size), .string (⟨#[94, 94]⟩ : ByteArray)] rfl (by (try simp only [List.map_toArray, List.map_cons, List.map_nil]); rfl) ?_; (with_reducible refine (strings_HasPrefix.calls (a1.extract (a2 : Int).toNat a1.size) (⟨#[94, 94]⟩ : ByteArray) false _ A6.out).mono ?_); rintro e w' ⟨rfl, ⟨nd, rfl⟩⟩; refine ⟨_, rfl, ?_⟩))
      (try simp only [Act.put, List.setIfInBounds_toArray, List.set_cons_zero, List.set_cons_succ])
      go_cut [45] (fun v45 wc => ∃ (kq : Nat) (x45_32 : Bool), v45 = .bool x45_32 ∧ Aside0 (term_behind.j0 kq a1 a2 x45_32 a0_0 a0_1 a0_2 a0_3 = some (r1, r2, r3, r4, r5)) ∧ Aside0 (kq ≤ k) ∧ Aside0 (wc.heap[gb182]? = some (.cells #[.int .i64 a0_0, .string a0_1, .string a0_2, .string a0_3] 43 (0, 0))) ∧ Aside0 (wc.heap[gb183]? = some (.cells #[.int .i64 0, .string (⟨#[]⟩ : ByteArray), .string (⟨#[]⟩ : ByteArray), .string (⟨#[]⟩ : ByteArray)] 43 (0, 0))) ∧ Aside0 (Below w.heap.size w wc))
      case first =>
        have H := HC33.out
        clear HC33
        by_cases c36 : a2 < (a1.size : Int)
        · rw [if_pos c36] at H
          have c36b0 : decide (a2 < (a1.size : Int)) = true := decide_eq_true c36
          clear c36
          have H' := Aside0.mk H
          clear H
          have p37 : 0 ≤ (a2 : Int) := of_decide_eq_true (by (with_reducible assumption))
          have q37 : a2 < (a1.size : Int) := of_decide_eq_true (by (with_reducible assumption))
          have hx37 := bt_at a1 a2
          replace p37 := eq_true p37
          replace q37 := eq_true q37
          go_wp2
          go_meet
          case rel => exact ⟨_, (((bt a1 a2) == 64)), (by rfl), H', ⟨by omega⟩, ⟨by (with_reducible repeat (refine blk_drewN ?_ _)); exact BK182.out⟩, ⟨by (with_reducible repeat (refine blk_drewN ?_ _)); exact BK183.out⟩, ⟨by repeat ((with_reducible first | exact HB.out | apply pw_below_drewN))⟩⟩
        rw [if_neg c36] at H
        have c36b0 : decide (a2 < (a1.size : Int)) = false := decide_eq_false c36
        clear c36
        have H' := Aside0.mk H
        clear H
        go_wp2
        go_meet
        case rel => exact ⟨_, (false), (by rfl), H', ⟨by omega⟩, ⟨by (with_reducible repeat (refine blk_drewN ?_ _)); exact BK182.out⟩, ⟨by (with_reducible repeat (refine blk_drewN ?_ _)); exact BK183.out⟩, ⟨by repeat ((with_reducible first | exact HB.out | apply pw_below_drewN))⟩⟩
      case rest =>
        clear HC33
        try clear c4b0
        try clear c4b1
        try clear c5b0
        try clear c5b1
        obtain ⟨kq, x45_32, rfl, HA, HJ32, BK182, BK183, HB⟩ := hcut
        cases kq with
        | zero => exact absurd HA.out (by simp [term_behind.j0])
        | succ kj32 =>
          have H := HA.out
          clear HA
          simp only [term_behind.j0] at H
          by_cases c38 : x45_32 = true
          · subst c38
            have H1 : (term_behind.l0 kj32 a1 a2 (wrap64 (a2 + 1)) a0_0 a0_1 a0_2 a0_3) = some (r1, r2, r3, r4, r5) := by rw [if_pos rfl] at H; exact H
            clear H
            have H := H1
            clear H1
            have H' := Aside0.mk H
            clear H
            go_wp2
            go_loopg [10] kj32 (fun kq v10 w' => ∃ (x10_2 : Int), v10 = .int .i64 x10_2 ∧ Aside0 (term_behind.l0 kq a1 a2 x10_2 a0_0 a0_1 a0_2 a0_3 = some (r1, r2, r3, r4, r5)) ∧ Aside0 (kq ≤ kj32) ∧ Aside0 (w'.heap[gb182]? = some (.cells #[.int .i64 a0_0, .string a0_1, .string a0_2, .string a0_3] 43 (0, 0))) ∧ Aside0 (w'.heap[gb183]? = some (.cells #[.int .i64 0, .string (⟨#[]⟩ : ByteArray), .string (⟨#[]⟩ : ByteArray), .string (⟨#[]⟩ : ByteArray)] 43 (0, 0))) ∧ Aside0 (Below w.heap.size w w'))
            case atStart => exact ⟨(wrap64 (a2 + 1)), (by rfl), H', ⟨Nat.le_refl _⟩, ⟨by (with_reducible repeat (fail)); exact BK182.out⟩, ⟨by (with_reducible repeat (fail)); exact BK183.out⟩, ⟨by repeat ((with_reducible exact HB.out))⟩⟩
            case round =>
              clear H'
              obtain ⟨x10_2, rfl, HA, HK2, BK182, BK183, HB⟩ := hrel
              cases gk with
              | zero => exact absurd HA.out (by simp [term_behind.l0])
              | succ k2 =>
                have H := HA.out
                clear HA
                simp only [term_behind.l0] at H
                by_cases c39 : x10_2 < (a1.size : Int)
                · rw [if_pos c39] at H
                  have c39b0 : decide (x10_2 < (a1.size : Int)) = true := decide_eq_true c39
                  clear c39
                  by_cases c40 : 0 ≤ x10_2
                  · rw [if_pos c40] at H
                    have c40b0 : decide (0 ≤ x10_2) = true := decide_eq_true c40
                    clear c40
                    by_cases c42 : (bt a1 x10_2) ≥ 97
                    · rw [if_pos c42] at H
                      have c42b0 : decide (97 ≤ (bt a1 x10_2)) = true := decide_eq_true c42
                      clear c42
                      by_cases c44 : (bt a1 x10_2) ≤ 122
                      · rw [if_pos c44] at H
                        have c44b0 : decide ((bt a1 x10_2) ≤ 122) = true := decide_eq_true c44
                        clear c44
                        have H' := Aside0.mk H
                        clear H
                        have p41 : 0 ≤ (x10_2 : Int) := of_decide_eq_true (by (with_reducible assumption))
                        have q41 : x10_2 < (a1.size : Int) := of_decide_eq_true (by (with_reducible assumption))
                        have hx41 := bt_at a1 x10_2
                        replace p41 := eq_true p41
                        replace q41 := eq_true q41
                        have p43 : 0 ≤ (x10_2 : Int) := of_decide_eq_true (by (with_reducible assumption))
                        have q43 : x10_2 < (a1.size : Int) := of_decide_eq_true (by (with_reducible assumption))
                        have hx43 := bt_at a1 x10_2
                        replace p43 := eq_true p43
                        replace q43 := eq_true q43
                        go_wp2
                        go_roundg k2
                        case measure => have := HJ32.out; have := HK2.out; omega
                        case rel => exact ⟨(wrap64 (x10_2 + 1)), (by rfl), H', ⟨by have := HJ32.out; have := HK2.out; omega⟩, ⟨by (with_reducible repeat (fail)); exact BK182.out⟩, ⟨by (with_reducible repeat (fail)); exact BK183.out⟩, ⟨by repeat ((with_reducible exact HB.out))⟩⟩
                      rw [if_neg c44] at H
                      have c44b0 : decide ((bt a1 x10_2) ≤ 122) = false := decide_eq_false c44
                      clear c44
                      obtain ⟨ji45, hji45⟩ : ∃ j_ : Int, (wrap64 (a2 + 1)) = j_ := ⟨_, rfl⟩
                      replace H : (if 0 ≤ (ji45) then (if (ji45) ≤ x10_2 then (if x10_2 ≤ (a1.size : Int) then ((term_isLang.f k2 (a1.extract ((ji45) : Int).toNat (x10_2 : Int).toNat)).bind fun t191 => (if t191 = true then (some (a0_0, a0_1, a0_2, a1.extract ((ji45) : Int).toNat (x10_2 : Int).toNat, x10_2)) else (some (a0_0, a0_1, a0_2, a0_3, a2)))) else (none)) else (none)) else (none)) = some (r1, r2, r3, r4, r5) := by (rw [hji45] at H; exact H)
                      have hji45w : (IntKind.i64.wrap (a2 + 1)) = ji45 := (i64_w _).trans hji45
                      by_cases c46 : 0 ≤ (ji45)
                      · rw [if_pos c46] at H
                        have c46b0 := eq_true c46
                        have c46b1 : decide (0 ≤ (ji45)) = true := decide_eq_true c46
                        clear c46
                        by_cases c47 : (ji45) ≤ x10_2
                        · rw [if_pos c47] at H
                          have c47b0 := eq_true c47
                          have c47b1 : decide ((ji45) ≤ x10_2) = true := decide_eq_true c47
                          clear c47
                          by_cases c48 : x10_2 ≤ (a1.size : Int)
                          · rw [if_pos c48] at H
                            have c48b0 := eq_true c48
                            have c48b1 : decide (x10_2 ≤ (a1.size : Int)) = true := decide_eq_true c48
                            clear c48
                            replace H := Option.bind_eq_some_iff.mp H
                            obtain ⟨t191, A490, H⟩ := H
                            replace H : (if t191 = true then (some (a0_0, a0_1, a0_2, a1.extract ((ji45) : Int).toNat (x10_2 : Int).toNat, x10_2)) else (some (a0_0, a0_1, a0_2, a0_3, a2))) = some (r1, r2, r3, r4, r5) := H
                            have A49 := Aside0.mk A490
                            clear A490
                            by_cases c50 : t191 = true
                            · subst c50
                              have H1 : (some (a0_0, a0_1, a0_2, a1.extract ((ji45) : Int).toNat (x10_2 : Int).toNat, x10_2)) = some (r1, r2, r3, r4, r5) := by rw [if_pos rfl] at H; exact H
                              clear H
                              have H := H1
                              clear H1
                              have c51b0 := eq_true (of_decide_eq_true (by (with_reducible assumption)) : 0 ≤ (ji45))
                              have c52b0 := eq_true (of_decide_eq_true (by (with_reducible assumption)) : (ji45) ≤ x10_2)
                              have c53b0 := eq_true (of_decide_eq_true (by (with_reducible assumption)) : x10_2 ≤ (a1.size : Int))
                              simp only [Option.some.injEq, Prod.mk.injEq] at H
                              obtain ⟨rfl, rfl, rfl, rfl, rfl⟩ := H
                              have p41 : 0 ≤ (x10_2 : Int) := of_decide_eq_true (by (with_reducible assumption))
                              have q41 : x10_2 < (a1.size : Int) := of_decide_eq_true (by (with_reducible assumption))
                              have hx41 := bt_at a1 x10_2
                              replace p41 := eq_true p41
                              replace q41 := eq_true q41
                              have p43 : 0 ≤ (x10_2 : Int) := of_decide_eq_true (by (with_reducible assumption))
                              have q43 : x10_2 < (a1.size : Int) := of_decide_eq_true (by (with_reducible assumption))
                              have hx43 := bt_at a1 x10_2
                              replace p43 := eq_true p43
                              replace q43 := eq_true q43
                              go_wp2_with (((with_reducible refine gate_callee (f := 49) rfl ?_); refine goesL_ (some 71) rfl rfl Tryd.func49 (by kernel_rfl) rfl #[.string (a1.extract ((ji45) : Int).toNat (x10_2 : Int).toNat)] rfl (by (try simp only [List.map_toArray, List.map_cons, List.map_nil]); (simp only [hji45]; rfl)) ?_; (with_reducible refine (term_isLang.calls k2 (a1.extract ((ji45) : Int).toNat (x10_2 : Int).toNat) true _ A49.out).mono ?_); rintro e w' ⟨rfl, ⟨nd, rfl⟩⟩; refine ⟨_, rfl, ?_⟩; (try (rw [drewN_self wr]; generalize hq_ : World.drewN wr _ = wr; have n0_ : Aside0 (wr.heap[gb182]? = some (.cells #[.int .i64 a0_0, .string a0_1, .string a0_2, .string a0_3] 43 (0, 0))) := ⟨by rw [← hq_]; exact (by (with_reducible repeat (refine blk_drewN ?_ _)); exact BK182.out)⟩; have n1_ : Aside0 (wr.heap[gb183]? = some (.cells #[.int .i64 0, .string (⟨#[]⟩ : ByteArray), .string (⟨#[]⟩ : ByteArray), .string (⟨#[]⟩ : ByteArray)] 43 (0, 0))) := ⟨by rw [← hq_]; exact (by (with_reducible repeat (refine blk_drewN ?_ _)); exact BK183.out)⟩; have n2_ : Aside0 (Below w.heap.size w wr) := ⟨by rw [← hq_]; exact (by repeat ((with_reducible first | exact HB.out | apply pw_below_drewN)))⟩; clear BK182 BK183 HB hq_; have BK182 := n0_; have BK183 := n1_; have HB := n2_; clear n0_ n1_ n2_)); have hnb54 := NB182_183.out; have hnc54 := NB183_182.out; have hcz55_0 : wr.cell? ⟨gb182, 0, none⟩ = some (.int .i64 a0_0) := (blk_cell BK182.out 0).trans rfl; have hcz55_1 : wr.cell? ⟨gb182, 1, none⟩ = some (.string a0_1) := (blk_cell BK182.out 1).trans rfl; have hcz55_2 : wr.cell? ⟨gb182, 2, none⟩ = some (.string a0_2) := (blk_cell BK182.out 2).trans rfl; have hcz55_3 : wr.cell? ⟨gb182, 3, none⟩ = some (.string a0_3) := (blk_cell BK182.out 3).trans rfl; have hfz55_0 := blk_frozen BK182.out 0; have hfz55_1 := blk_frozen BK182.out 1; have hfz55_2 := blk_frozen BK182.out 2; have hfz55_3 := blk_frozen BK182.out 3; have hcz56_0 : wr.cell? ⟨gb183, 0, none⟩ = some (.int .i64 0) := (blk_cell BK183.out 0).trans rfl; have hcz56_1 : wr.cell? ⟨gb183, 1, none⟩ = some (.string (⟨#[]⟩ : ByteArray)) := (blk_cell BK183.out 1).trans rfl; have hcz56_2 : wr.cell? ⟨gb183, 2, none⟩ = some (.string (⟨#[]⟩ : ByteArray)) := (blk_cell BK183.out 2).trans rfl; have hcz56_3 : wr.cell? ⟨gb183, 3, none⟩ = some (.string (⟨#[]⟩ : ByteArray)) := (blk_cell BK183.out 3).trans rfl; have hfz56_0 := blk_frozen BK183.out 0; have hfz56_1 := blk_frozen BK183.out 1; have hfz56_2 := blk_frozen BK183.out 2; have hfz56_3 := blk_frozen BK183.out 3))
                              refine bodyPost_ret (results_ct rfl _ _ gb183 43 #[.int .i64 a0_0, .string a0_1, .string a0_2, .string (a1.extract ((ji45) : Int).toNat (x10_2 : Int).toNat)] (0, 0) _ rfl (by (with_reducible repeat (fail)); refine blk_put (cs := #[.int .i64 a0_0, .string a0_1, .string a0_2, .string (⟨#[]⟩ : ByteArray)]) ?_ 3 _ rfl; (with_reducible repeat (fail)); refine blk_put (cs := #[.int .i64 a0_0, .string a0_1, .string (⟨#[]⟩ : ByteArray), .string (⟨#[]⟩ : ByteArray)]) ?_ 2 _ rfl; (with_reducible repeat (fail)); refine blk_put (cs := #[.int .i64 a0_0, .string (⟨#[]⟩ : ByteArray), .string (⟨#[]⟩ : ByteArray), .string (⟨#[]⟩ : ByteArray)]) ?_ 1 _ rfl; (with_reducible repeat (fail)); refine blk_put (cs := #[.int .i64 0, .string (⟨#[]⟩ : ByteArray), .string (⟨#[]⟩ : ByteArray), .string (⟨#[]⟩ : ByteArray)]) ?_ 0 _ rfl; (with_reducible repeat (fail)); refine blk_far ?_ NB183_182.out _; (with_reducible repeat (fail)); exact BK183.out) Tryd.underlying43 rfl (by kernel_rfl)) rfl ?_
                              exact ⟨by rfl, by repeat ((with_reducible first | exact HB.out | refine below_set ?_ GE182.out | refine below_set ?_ GE183.out))⟩
                            replace c50 := Bool.eq_false_iff.mpr c50
                            subst c50
                            have H1 : (some (a0_0, a0_1, a0_2, a0_3, a2)) = some (r1, r2, r3, r4, r5) := by rw [if_neg (show ¬ (false = true) by decide)] at H; exact H
                            clear H
                            have H := H1
                            clear H1
                            simp only [Option.some.injEq, Prod.mk.injEq] at H
                            obtain ⟨rfl, rfl, rfl, rfl, rfl⟩ := H
                            have p41 : 0 ≤ (x10_2 : Int) := of_decide_eq_true (by (with_reducible assumption))
                            have q41 : x10_2 < (a1.size : Int) := of_decide_eq_true (by (with_reducible assumption))
                            have hx41 := bt_at a1 x10_2
                            replace p41 := eq_true p41
                            replace q41 := eq_true q41
                            have p43 : 0 ≤ (x10_2 : Int) := of_decide_eq_true (by (with_reducible assumption))
                            have q43 : x10_2 < (a1.size : Int) := of_decide_eq_true (by (with_reducible assumption))
                            have hx43 := bt_at a1 x10_2
                            replace p43 := eq_true p43
                            replace q43 := eq_true q43
                            go_wp2_with (((with_reducible refine gate_callee (f := 49) rfl ?_); refine goesL_ (some 71) rfl rfl Tryd.func49 (by kernel_rfl) rfl #[.string (a1.extract ((ji45) : Int).toNat (x10_2 : Int).toNat)] rfl (by (try simp only [List.map_toArray, List.map_cons, List.map_nil]); (simp only [hji45]; rfl)) ?_; (with_reducible refine (term_isLang.calls k2 (a1.extract ((ji45) : Int).toNat (x10_2 : Int).toNat) false _ A49.out).mono ?_); rintro e w' ⟨rfl, ⟨nd, rfl⟩⟩; refine ⟨_, rfl, ?_⟩; (try (rw [drewN_self wr]; generalize hq_ : World.drewN wr _ = wr; have n0_ : Aside0 (wr.heap[gb182]? = some (.cells #[.int .i64 a0_0, .string a0_1, .string a0_2, .string a0_3] 43 (0, 0))) := ⟨by rw [← hq_]; exact (by (with_reducible repeat (refine blk_drewN ?_ _)); exact BK182.out)⟩; have n1_ : Aside0 (wr.heap[gb183]? = some (.cells #[.int .i64 0, .string (⟨#[]⟩ : ByteArray), .string (⟨#[]⟩ : ByteArray), .string (⟨#[]⟩ : ByteArray)] 43 (0, 0))) := ⟨by rw [← hq_]; exact (by (with_reducible repeat (refine blk_drewN ?_ _)); exact BK183.out)⟩; have n2_ : Aside0 (Below w.heap.size w wr) := ⟨by rw [← hq_]; exact (by repeat ((with_reducible first | exact HB.out | apply pw_below_drewN)))⟩; clear BK182 BK183 HB hq_; have BK182 := n0_; have BK183 := n1_; have HB := n2_; clear n0_ n1_ n2_)); have hnb57 := NB182_183.out; have hnc57 := NB183_182.out; have hcz58_0 : wr.cell? ⟨gb182, 0, none⟩ = some (.int .i64 a0_0) := (blk_cell BK182.out 0).trans rfl; have hcz58_1 : wr.cell? ⟨gb182, 1, none⟩ = some (.string a0_1) := (blk_cell BK182.out 1).trans rfl; have hcz58_2 : wr.cell? ⟨gb182, 2, none⟩ = some (.string a0_2) := (blk_cell BK182.out 2).trans rfl; have hcz58_3 : wr.cell? ⟨gb182, 3, none⟩ = some (.string a0_3) := (blk_cell BK182.out 3).trans rfl; have hfz58_0 := blk_frozen BK182.out 0; have hfz58_1 := blk_frozen BK182.out 1; have hfz58_2 := blk_frozen BK182.out 2; have hfz58_3 := blk_frozen BK182.out 3; have hcz59_0 : wr.cell? ⟨gb183, 0, none⟩ = some (.int .i64 0) := (blk_cell BK183.out 0).trans rfl; have hcz59_1 : wr.cell? ⟨gb183, 1, none⟩ = some (.string (⟨#[]⟩ : ByteArray)) := (blk_cell BK183.out 1).trans rfl; have hcz59_2 : wr.cell? ⟨gb183, 2, none⟩ = some (.string (⟨#[]⟩ : ByteArray)) := (blk_cell BK183.out 2).trans rfl; have hcz59_3 : wr.cell? ⟨gb183, 3, none⟩ = some (.string (⟨#[]⟩ : ByteArray)) := (blk_cell BK183.out 3).trans rfl; have hfz59_0 := blk_frozen BK183.out 0; have hfz59_1 := blk_frozen BK183.out 1; have hfz59_2 := blk_frozen BK183.out 2; have hfz59_3 := blk_frozen BK183.out 3))
                            refine bodyPost_ret (results_ct rfl _ _ gb183 43 #[.int .i64 a0_0, .string a0_1, .string a0_2, .string a0_3] (0, 0) _ rfl (by (with_reducible repeat (fail)); refine blk_put (cs := #[.int .i64 a0_0, .string a0_1, .string a0_2, .string (⟨#[]⟩ : ByteArray)]) ?_ 3 _ rfl; (with_reducible repeat (fail)); refine blk_put (cs := #[.int .i64 a0_0, .string a0_1, .string (⟨#[]⟩ : ByteArray), .string (⟨#[]⟩ : ByteArray)]) ?_ 2 _ rfl; (with_reducible repeat (fail)); refine blk_put (cs := #[.int .i64 a0_0, .string (⟨#[]⟩ : ByteArray), .string (⟨#[]⟩ : ByteArray), .string (⟨#[]⟩ : ByteArray)]) ?_ 1 _ rfl; (with_reducible repeat (fail)); refine blk_put (cs := #[.int .i64 0, .string (⟨#[]⟩ : ByteArray), .string (⟨#[]⟩ : ByteArray), .string (⟨#[]⟩ : ByteArray)]) ?_ 0 _ rfl; (with_reducible repeat (fail)); exact BK183.out) Tryd.underlying43 rfl (by kernel_rfl)) rfl ?_
                            exact ⟨by rfl, by repeat ((with_reducible first | exact HB.out | refine below_set ?_ GE183.out))⟩
                          rw [if_neg c48] at H
                          exact absurd H (by simp)
                        rw [if_neg c47] at H
                        exact absurd H (by simp)
                      rw [if_neg c46] at H
                      exact absurd H (by simp)
                    rw [if_neg c42] at H
                    have c42b0 : decide (97 ≤ (bt a1 x10_2)) = false := decide_eq_false c42
                    clear c42
                    obtain ⟨ji60, hji60⟩ : ∃ j_ : Int, (wrap64 (a2 + 1)) = j_ := ⟨_, rfl⟩
                    replace H : (if 0 ≤ (ji60) then (if (ji60) ≤ x10_2 then (if x10_2 ≤ (a1.size : Int) then ((term_isLang.f k2 (a1.extract ((ji60) : Int).toNat (x10_2 : Int).toNat)).bind fun t192 => (if t192 = true then (some (a0_0, a0_1, a0_2, a1.extract ((ji60) : Int).toNat (x10_2 : Int).toNat, x10_2)) else (some (a0_0, a0_1, a0_2, a0_3, a2)))) else (none)) else (none)) else (none)) = some (r1, r2, r3, r4, r5) := by (rw [hji60] at H; exact H)
                    have hji60w : (IntKind.i64.wrap (a2 + 1)) = ji60 := (i64_w _).trans hji60
                    by_cases c61 : 0 ≤ (ji60)
                    · rw [if_pos c61] at H
                      have c61b0 := eq_true c61
                      have c61b1 : decide (0 ≤ (ji60)) = true := decide_eq_true c61
                      clear c61
                      by_cases c62 : (ji60) ≤ x10_2
                      · rw [if_pos c62] at H
                        have c62b0 := eq_true c62
                        have c62b1 : decide ((ji60) ≤ x10_2) = true := decide_eq_true c62
                        clear c62
                        by_cases c63 : x10_2 ≤ (a1.size : Int)
                        · rw [if_pos c63] at H
                          have c63b0 := eq_true c63
                          have c63b1 : decide (x10_2 ≤ (a1.size : Int)) = true := decide_eq_true c63
                          clear c63
                          replace H := Option.bind_eq_some_iff.mp H
                          obtain ⟨t192, A640, H⟩ := H
                          replace H : (if t192 = true then (some (a0_0, a0_1, a0_2, a1.extract ((ji60) : Int).toNat (x10_2 : Int).toNat, x10_2)) else (some (a0_0, a0_1, a0_2, a0_3, a2))) = some (r1, r2, r3, r4, r5) := H
                          have A64 := Aside0.mk A640
                          clear A640
                          by_cases c65 : t192 = true
                          · subst c65
                            have H1 : (some (a0_0, a0_1, a0_2, a1.extract ((ji60) : Int).toNat (x10_2 : Int).toNat, x10_2)) = some (r1, r2, r3, r4, r5) := by rw [if_pos rfl] at H; exact H
                            clear H
                            have H := H1
                            clear H1
                            have c66b0 := eq_true (of_decide_eq_true (by (with_reducible assumption)) : 0 ≤ (ji60))
                            have c67b0 := eq_true (of_decide_eq_true (by (with_reducible assumption)) : (ji60) ≤ x10_2)
                            have c68b0 := eq_true (of_decide_eq_true (by (with_reducible assumption)) : x10_2 ≤ (a1.size : Int))
                            simp only [Option.some.injEq, Prod.mk.injEq] at H
                            obtain ⟨rfl, rfl, rfl, rfl, rfl⟩ := H
                            have p41 : 0 ≤ (x10_2 : Int) := of_decide_eq_true (by (with_reducible assumption))
                            have q41 : x10_2 < (a1.size : Int) := of_decide_eq_true (by (with_reducible assumption))
                            have hx41 := bt_at a1 x10_2
                            replace p41 := eq_true p41
                            replace q41 := eq_true q41
                            go_wp2_with (((with_reducible refine gate_callee (f := 49) rfl ?_); refine goesL_ (some 71) rfl rfl Tryd.func49 (by kernel_rfl) rfl #[.string (a1.extract ((ji60) : Int).toNat (x10_2 : Int).toNat)] rfl (by (try simp only [List.map_toArray, List.map_cons, List.map_nil]); (simp only [hji60]; rfl)) ?_; (with_reducible refine (term_isLang.calls k2 (a1.extract ((ji60) : Int).toNat (x10_2 : Int).toNat) true _ A64.out).mono ?_); rintro e w' ⟨rfl, ⟨nd, rfl⟩⟩; refine ⟨_, rfl, ?_⟩; (try (rw [drewN_self wr]; generalize hq_ : World.drewN wr _ = wr; have n0_ : Aside0 (wr.heap[gb182]? = some (.cells #[.int .i64 a0_0, .string a0_1, .string a0_2, .string a0_3] 43 (0, 0))) := ⟨by rw [← hq_]; exact (by (with_reducible repeat (refine blk_drewN ?_ _)); exact BK182.out)⟩; have n1_ : Aside0 (wr.heap[gb183]? = some (.cells #[.int .i64 0, .string (⟨#[]⟩ : ByteArray), .string (⟨#[]⟩ : ByteArray), .string (⟨#[]⟩ : ByteArray)] 43 (0, 0))) := ⟨by rw [← hq_]; exact (by (with_reducible repeat (refine blk_drewN ?_ _)); exact BK183.out)⟩; have n2_ : Aside0 (Below w.heap.size w wr) := ⟨by rw [← hq_]; exact (by repeat ((with_reducible first | exact HB.out | apply pw_below_drewN)))⟩; clear BK182 BK183 HB hq_; have BK182 := n0_; have BK183 := n1_; have HB := n2_; clear n0_ n1_ n2_)); have hnb69 := NB182_183.out; have hnc69 := NB183_182.out; have hcz70_0 : wr.cell? ⟨gb182, 0, none⟩ = some (.int .i64 a0_0) := (blk_cell BK182.out 0).trans rfl; have hcz70_1 : wr.cell? ⟨gb182, 1, none⟩ = some (.string a0_1) := (blk_cell BK182.out 1).trans rfl; have hcz70_2 : wr.cell? ⟨gb182, 2, none⟩ = some (.string a0_2) := (blk_cell BK182.out 2).trans rfl; have hcz70_3 : wr.cell? ⟨gb182, 3, none⟩ = some (.string a0_3) := (blk_cell BK182.out 3).trans rfl; have hfz70_0 := blk_frozen BK182.out 0; have hfz70_1 := blk_frozen BK182.out 1; have hfz70_2 := blk_frozen BK182.out 2; have hfz70_3 := blk_frozen BK182.out 3; have hcz71_0 : wr.cell? ⟨gb183, 0, none⟩ = some (.int .i64 0) := (blk_cell BK183.out 0).trans rfl; have hcz71_1 : wr.cell? ⟨gb183, 1, none⟩ = some (.string (⟨#[]⟩ : ByteArray)) := (blk_cell BK183.out 1).trans rfl; have hcz71_2 : wr.cell? ⟨gb183, 2, none⟩ = some (.string (⟨#[]⟩ : ByteArray)) := (blk_cell BK183.out 2).trans rfl; have hcz71_3 : wr.cell? ⟨gb183, 3, none⟩ = some (.string (⟨#[]⟩ : ByteArray)) := (blk_cell BK183.out 3).trans rfl; have hfz71_0 := blk_frozen BK183.out 0; have hfz71_1 := blk_frozen BK183.out 1; have hfz71_2 := blk_frozen BK183.out 2; have hfz71_3 := blk_frozen BK183.out 3))
                            refine bodyPost_ret (results_ct rfl _ _ gb183 43 #[.int .i64 a0_0, .string a0_1, .string a0_2, .string (a1.extract ((ji60) : Int).toNat (x10_2 : Int).toNat)] (0, 0) _ rfl (by (with_reducible repeat (fail)); refine blk_put (cs := #[.int .i64 a0_0, .string a0_1, .string a0_2, .string (⟨#[]⟩ : ByteArray)]) ?_ 3 _ rfl; (with_reducible repeat (fail)); refine blk_put (cs := #[.int .i64 a0_0, .string a0_1, .string (⟨#[]⟩ : ByteArray), .string (⟨#[]⟩ : ByteArray)]) ?_ 2 _ rfl; (with_reducible repeat (fail)); refine blk_put (cs := #[.int .i64 a0_0, .string (⟨#[]⟩ : ByteArray), .string (⟨#[]⟩ : ByteArray), .string (⟨#[]⟩ : ByteArray)]) ?_ 1 _ rfl; (with_reducible repeat (fail)); refine blk_put (cs := #[.int .i64 0, .string (⟨#[]⟩ : ByteArray), .string (⟨#[]⟩ : ByteArray), .string (⟨#[]⟩ : ByteArray)]) ?_ 0 _ rfl; (with_reducible repeat (fail)); refine blk_far ?_ NB183_182.out _; (with_reducible repeat (fail)); exact BK183.out) Tryd.underlying43 rfl (by kernel_rfl)) rfl ?_
                            exact ⟨by rfl, by repeat ((with_reducible first | exact HB.out | refine below_set ?_ GE182.out | refine below_set ?_ GE183.out))⟩
                          replace c65 := Bool.eq_false_iff.mpr c65
                          subst c65
                          have H1 : (some (a0_0, a0_1, a0_2, a0_3, a2)) = some (r1, r2, r3, r4, r5) := by rw [if_neg (show ¬ (false = true) by decide)] at H; exact H
                          clear H
                          have H := H1
                          clear H1
                          simp only [Option.some.injEq, Prod.mk.injEq] at H
                          obtain ⟨rfl, rfl, rfl, rfl, rfl⟩ := H
                          have p41 : 0 ≤ (x10_2 : Int) := of_decide_eq_true (by (with_reducible assumption))
                          have q41 : x10_2 < (a1.size : Int) := of_decide_eq_true (by (with_reducible assumption))
                          have hx41 := bt_at a1 x10_2
                          replace p41 := eq_true p41
                          replace q41 := eq_true q41
                          go_wp2_with (((with_reducible refine gate_callee (f := 49) rfl ?_); refine goesL_ (some 71) rfl rfl Tryd.func49 (by kernel_rfl) rfl #[.string (a1.extract ((ji60) : Int).toNat (x10_2 : Int).toNat)] rfl (by (try simp only [List.map_toArray, List.map_cons, List.map_nil]); (simp only [hji60]; rfl)) ?_; (with_reducible refine (term_isLang.calls k2 (a1.extract ((ji60) : Int).toNat (x10_2 : Int).toNat) false _ A64.out).mono ?_); rintro e w' ⟨rfl, ⟨nd, rfl⟩⟩; refine ⟨_, rfl, ?_⟩; (try (rw [drewN_self wr]; generalize hq_ : World.drewN wr _ = wr; have n0_ : Aside0 (wr.heap[gb182]? = some (.cells #[.int .i64 a0_0, .string a0_1, .string a0_2, .string a0_3] 43 (0, 0))) := ⟨by rw [← hq_]; exact (by (with_reducible repeat (refine blk_drewN ?_ _)); exact BK182.out)⟩; have n1_ : Aside0 (wr.heap[gb183]? = some (.cells #[.int .i64 0, .string (⟨#[]⟩ : ByteArray), .string (⟨#[]⟩ : ByteArray), .string (⟨#[]⟩ : ByteArray)] 43 (0, 0))) := ⟨by rw [← hq_]; exact (by (with_reducible repeat (refine blk_drewN ?_ _)); exact BK183.out)⟩; have n2_ : Aside0 (Below w.heap.size w wr) := ⟨by rw [← hq_]; exact (by repeat ((with_reducible first | exact HB.out | apply pw_below_drewN)))⟩; clear BK182 BK183 HB hq_; have BK182 := n0_; have BK183 := n1_; have HB := n2_; clear n0_ n1_ n2_)); have hnb72 := NB182_183.out; have hnc72 := NB183_182.out; have hcz73_0 : wr.cell? ⟨gb182, 0, none⟩ = some (.int .i64 a0_0) := (blk_cell BK182.out 0).trans rfl; have hcz73_1 : wr.cell? ⟨gb182, 1, none⟩ = some (.string a0_1) := (blk_cell BK182.out 1).trans rfl; have hcz73_2 : wr.cell? ⟨gb182, 2, none⟩ = some (.string a0_2) := (blk_cell BK182.out 2).trans rfl; have hcz73_3 : wr.cell? ⟨gb182, 3, none⟩ = some (.string a0_3) := (blk_cell BK182.out 3).trans rfl; have hfz73_0 := blk_frozen BK182.out 0; have hfz73_1 := blk_frozen BK182.out 1; have hfz73_2 := blk_frozen BK182.out 2; have hfz73_3 := blk_frozen BK182.out 3; have hcz74_0 : wr.cell? ⟨gb183, 0, none⟩ = some (.int .i64 0) := (blk_cell BK183.out 0).trans rfl; have hcz74_1 : wr.cell? ⟨gb183, 1, none⟩ = some (.string (⟨#[]⟩ : ByteArray)) := (blk_cell BK183.out 1).trans rfl; have hcz74_2 : wr.cell? ⟨gb183, 2, none⟩ = some (.string (⟨#[]⟩ : ByteArray)) := (blk_cell BK183.out 2).trans rfl; have hcz74_3 : wr.cell? ⟨gb183, 3, none⟩ = some (.string (⟨#[]⟩ : ByteArray)) := (blk_cell BK183.out 3).trans rfl; have hfz74_0 := blk_frozen BK183.out 0; have hfz74_1 := blk_frozen BK183.out 1; have hfz74_2 := blk_frozen BK183.out 2; have hfz74_3 := blk_frozen BK183.out 3))
                          refine bodyPost_ret (results_ct rfl _ _ gb183 43 #[.int .i64 a0_0, .string a0_1, .string a0_2, .string a0_3] (0, 0) _ rfl (by (with_reducible repeat (fail)); refine blk_put (cs := #[.int .i64 a0_0, .string a0_1, .string a0_2, .string (⟨#[]⟩ : ByteArray)]) ?_ 3 _ rfl; (with_reducible repeat (fail)); refine blk_put (cs := #[.int .i64 a0_0, .string a0_1, .string (⟨#[]⟩ : ByteArray), .string (⟨#[]⟩ : ByteArray)]) ?_ 2 _ rfl; (with_reducible repeat (fail)); refine blk_put (cs := #[.int .i64 a0_0, .string (⟨#[]⟩ : ByteArray), .string (⟨#[]⟩ : ByteArray), .string (⟨#[]⟩ : ByteArray)]) ?_ 1 _ rfl; (with_reducible repeat (fail)); refine blk_put (cs := #[.int .i64 0, .string (⟨#[]⟩ : ByteArray), .string (⟨#[]⟩ : ByteArray), .string (⟨#[]⟩ : ByteArray)]) ?_ 0 _ rfl; (with_reducible repeat (fail)); exact BK183.out) Tryd.underlying43 rfl (by kernel_rfl)) rfl ?_
                          exact ⟨by rfl, by repeat ((with_reducible first | exact HB.out | refine below_set ?_ GE183.out))⟩
                        rw [if_neg c63] at H
                        exact absurd H (by simp)
                      rw [if_neg c62] at H
                      exact absurd H (by simp)
                    rw [if_neg c61] at H
                    exact absurd H (by simp)
                  rw [if_neg c40] at H
                  exact absurd H (by simp)
                rw [if_neg c39] at H
                have c39b0 : decide (x10_2 < (a1.size : Int)) = false := decide_eq_false c39
                clear c39
                obtain ⟨ji75, hji75⟩ : ∃ j_ : Int, (wrap64 (a2 + 1)) = j_ := ⟨_, rfl⟩
                replace H : (if 0 ≤ (ji75) then (if (ji75) ≤ x10_2 then (if x10_2 ≤ (a1.size : Int) then ((term_isLang.f k2 (a1.extract ((ji75) : Int).toNat (x10_2 : Int).toNat)).bind fun t193 => (if t193 = true then (some (a0_0, a0_1, a0_2, a1.extract ((ji75) : Int).toNat (x10_2 : Int).toNat, x10_2)) else (some (a0_0, a0_1, a0_2, a0_3, a2)))) else (none)) else (none)) else (none)) = some (r1, r2, r3, r4, r5) := by (rw [hji75] at H; exact H)
                have hji75w : (IntKind.i64.wrap (a2 + 1)) = ji75 := (i64_w _).trans hji75
                by_cases c76 : 0 ≤ (ji75)
                · rw [if_pos c76] at H
                  have c76b0 := eq_true c76
                  have c76b1 : decide (0 ≤ (ji75)) = true := decide_eq_true c76
                  clear c76
                  by_cases c77 : (ji75) ≤ x10_2
                  · rw [if_pos c77] at H
                    have c77b0 := eq_true c77
                    have c77b1 : decide ((ji75) ≤ x10_2) = true := decide_eq_true c77
                    clear c77
                    by_cases c78 : x10_2 ≤ (a1.size : Int)
                    · rw [if_pos c78] at H
                      have c78b0 := eq_true c78
                      have c78b1 : decide (x10_2 ≤ (a1.size : Int)) = true := decide_eq_true c78
                      clear c78
                      replace H := Option.bind_eq_some_iff.mp H
                      obtain ⟨t193, A790, H⟩ := H
                      replace H : (if t193 = true then (some (a0_0, a0_1, a0_2, a1.extract ((ji75) : Int).toNat (x10_2 : Int).toNat, x10_2)) else (some (a0_0, a0_1, a0_2, a0_3, a2))) = some (r1, r2, r3, r4, r5) := H
                      have A79 := Aside0.mk A790
                      clear A790
                      by_cases c80 : t193 = true
                      · subst c80
                        have H1 : (some (a0_0, a0_1, a0_2, a1.extract ((ji75) : Int).toNat (x10_2 : Int).toNat, x10_2)) = some (r1, r2, r3, r4, r5) := by rw [if_pos rfl] at H; exact H
                        clear H
                        have H := H1
                        clear H1
                        have c81b0 := eq_true (of_decide_eq_true (by (with_reducible assumption)) : 0 ≤ (ji75))
                        have c82b0 := eq_true (of_decide_eq_true (by (with_reducible assumption)) : (ji75) ≤ x10_2)
                        have c83b0 := eq_true (of_decide_eq_true (by (with_reducible assumption)) : x10_2 ≤ (a1.size : Int))
                        simp only [Option.some.injEq, Prod.mk.injEq] at H
                        obtain ⟨rfl, rfl, rfl, rfl, rfl⟩ := H
                        go_wp2_with (((with_reducible refine gate_callee (f := 49) rfl ?_); refine goesL_ (some 71) rfl rfl Tryd.func49 (by kernel_rfl) rfl #[.string (a1.extract ((ji75) : Int).toNat (x10_2 : Int).toNat)] rfl (by (try simp only [List.map_toArray, List.map_cons, List.map_nil]); (simp only [hji75]; rfl)) ?_; (with_reducible refine (term_isLang.calls k2 (a1.extract ((ji75) : Int).toNat (x10_2 : Int).toNat) true _ A79.out).mono ?_); rintro e w' ⟨rfl, ⟨nd, rfl⟩⟩; refine ⟨_, rfl, ?_⟩; (try (rw [drewN_self wr]; generalize hq_ : World.drewN wr _ = wr; have n0_ : Aside0 (wr.heap[gb182]? = some (.cells #[.int .i64 a0_0, .string a0_1, .string a0_2, .string a0_3] 43 (0, 0))) := ⟨by rw [← hq_]; exact (by (with_reducible repeat (refine blk_drewN ?_ _)); exact BK182.out)⟩; have n1_ : Aside0 (wr.heap[gb183]? = some (.cells #[.int .i64 0, .string (⟨#[]⟩ : ByteArray), .string (⟨#[]⟩ : ByteArray), .string (⟨#[]⟩ : ByteArray)] 43 (0, 0))) := ⟨by rw [← hq_]; exact (by (with_reducible repeat (refine blk_drewN ?_ _)); exact BK183.out)⟩; have n2_ : Aside0 (Below w.heap.size w wr) := ⟨by rw [← hq_]; exact (by repeat ((with_reducible first | exact HB.out | apply pw_below_drewN)))⟩; clear BK182 BK183 HB hq_; have BK182 := n0_; have BK183 := n1_; have HB := n2_; clear n0_ n1_ n2_)); have hnb84 := NB182_183.out; have hnc84 := NB183_182.out; have hcz85_0 : wr.cell? ⟨gb182, 0, none⟩ = some (.int .i64 a0_0) := (blk_cell BK182.out 0).trans rfl; have hcz85_1 : wr.cell? ⟨gb182, 1, none⟩ = some (.string a0_1) := (blk_cell BK182.out 1).trans rfl; have hcz85_2 : wr.cell? ⟨gb182, 2, none⟩ = some (.string a0_2) := (blk_cell BK182.out 2).trans rfl; have hcz85_3 : wr.cell? ⟨gb182, 3, none⟩ = some (.string a0_3) := (blk_cell BK182.out 3).trans rfl; have hfz85_0 := blk_frozen BK182.out 0; have hfz85_1 := blk_frozen BK182.out 1; have hfz85_2 := blk_frozen BK182.out 2; have hfz85_3 := blk_frozen BK182.out 3; have hcz86_0 : wr.cell? ⟨gb183, 0, none⟩ = some (.int .i64 0) := (blk_cell BK183.out 0).trans rfl; have hcz86_1 : wr.cell? ⟨gb183, 1, none⟩ = some (.string (⟨#[]⟩ : ByteArray)) := (blk_cell BK183.out 1).trans rfl; have hcz86_2 : wr.cell? ⟨gb183, 2, none⟩ = some (.string (⟨#[]⟩ : ByteArray)) := (blk_cell BK183.out 2).trans rfl; have hcz86_3 : wr.cell? ⟨gb183, 3, none⟩ = some (.string (⟨#[]⟩ : ByteArray)) := (blk_cell BK183.out 3).trans rfl; have hfz86_0 := blk_frozen BK183.out 0; have hfz86_1 := blk_frozen BK183.out 1; have hfz86_2 := blk_frozen BK183.out 2; have hfz86_3 := blk_frozen BK183.out 3))
                        refine bodyPost_ret (results_ct rfl _ _ gb183 43 #[.int .i64 a0_0, .string a0_1, .string a0_2, .string (a1.extract ((ji75) : Int).toNat (x10_2 : Int).toNat)] (0, 0) _ rfl (by (with_reducible repeat (fail)); refine blk_put (cs := #[.int .i64 a0_0, .string a0_1, .string a0_2, .string (⟨#[]⟩ : ByteArray)]) ?_ 3 _ rfl; (with_reducible repeat (fail)); refine blk_put (cs := #[.int .i64 a0_0, .string a0_1, .string (⟨#[]⟩ : ByteArray), .string (⟨#[]⟩ : ByteArray)]) ?_ 2 _ rfl; (with_reducible repeat (fail)); refine blk_put (cs := #[.int .i64 a0_0, .string (⟨#[]⟩ : ByteArray), .string (⟨#[]⟩ : ByteArray), .string (⟨#[]⟩ : ByteArray)]) ?_ 1 _ rfl; (with_reducible repeat (fail)); refine blk_put (cs := #[.int .i64 0, .string (⟨#[]⟩ : ByteArray), .string (⟨#[]⟩ : ByteArray), .string (⟨#[]⟩ : ByteArray)]) ?_ 0 _ rfl; (with_reducible repeat (fail)); refine blk_far ?_ NB183_182.out _; (with_reducible repeat (fail)); exact BK183.out) Tryd.underlying43 rfl (by kernel_rfl)) rfl ?_
                        exact ⟨by rfl, by repeat ((with_reducible first | exact HB.out | refine below_set ?_ GE182.out | refine below_set ?_ GE183.out))⟩
                      replace c80 := Bool.eq_false_iff.mpr c80
                      subst c80
                      have H1 : (some (a0_0, a0_1, a0_2, a0_3, a2)) = some (r1, r2, r3, r4, r5) := by rw [if_neg (show ¬ (false = true) by decide)] at H; exact H
                      clear H
                      have H := H1
                      clear H1
                      simp only [Option.some.injEq, Prod.mk.injEq] at H
                      obtain ⟨rfl, rfl, rfl, rfl, rfl⟩ := H
                      go_wp2_with (((with_reducible refine gate_callee (f := 49) rfl ?_); refine goesL_ (some 71) rfl rfl Tryd.func49 (by kernel_rfl) rfl #[.string (a1.extract ((ji75) : Int).toNat (x10_2 : Int).toNat)] rfl (by (try simp only [List.map_toArray, List.map_cons, List.map_nil]); (simp only [hji75]; rfl)) ?_; (with_reducible refine (term_isLang.calls k2 (a1.extract ((ji75) : Int).toNat (x10_2 : Int).toNat) false _ A79.out).mono ?_); rintro e w' ⟨rfl, ⟨nd, rfl⟩⟩; refine ⟨_, rfl, ?_⟩; (try (rw [drewN_self wr]; generalize hq_ : World.drewN wr _ = wr; have n0_ : Aside0 (wr.heap[gb182]? = some (.cells #[.int .i64 a0_0, .string a0_1, .string a0_2, .string a0_3] 43 (0, 0))) := ⟨by rw [← hq_]; exact (by (with_reducible repeat (refine blk_drewN ?_ _)); exact BK182.out)⟩; have n1_ : Aside0 (wr.heap[gb183]? = some (.cells #[.int .i64 0, .string (⟨#[]⟩ : ByteArray), .string (⟨#[]⟩ : ByteArray), .string (⟨#[]⟩ : ByteArray)] 43 (0, 0))) := ⟨by rw [← hq_]; exact (by (with_reducible repeat (refine blk_drewN ?_ _)); exact BK183.out)⟩; have n2_ : Aside0 (Below w.heap.size w wr) := ⟨by rw [← hq_]; exact (by repeat ((with_reducible first | exact HB.out | apply pw_below_drewN)))⟩; clear BK182 BK183 HB hq_; have BK182 := n0_; have BK183 := n1_; have HB := n2_; clear n0_ n1_ n2_)); have hnb87 := NB182_183.out; have hnc87 := NB183_182.out; have hcz88_0 : wr.cell? ⟨gb182, 0, none⟩ = some (.int .i64 a0_0) := (blk_cell BK182.out 0).trans rfl; have hcz88_1 : wr.cell? ⟨gb182, 1, none⟩ = some (.string a0_1) := (blk_cell BK182.out 1).trans rfl; have hcz88_2 : wr.cell? ⟨gb182, 2, none⟩ = some (.string a0_2) := (blk_cell BK182.out 2).trans rfl; have hcz88_3 : wr.cell? ⟨gb182, 3, none⟩ = some (.string a0_3) := (blk_cell BK182.out 3).trans rfl; have hfz88_0 := blk_frozen BK182.out 0; have hfz88_1 := blk_frozen BK182.out 1; have hfz88_2 := blk_frozen BK182.out 2; have hfz88_3 := blk_frozen BK182.out 3; have hcz89_0 : wr.cell? ⟨gb183, 0, none⟩ = some (.int .i64 0) := (blk_cell BK183.out 0).trans rfl; have hcz89_1 : wr.cell? ⟨gb183, 1, none⟩ = some (.string (⟨#[]⟩ : ByteArray)) := (blk_cell BK183.out 1).trans rfl; have hcz89_2 : wr.cell? ⟨gb183, 2, none⟩ = some (.string (⟨#[]⟩ : ByteArray)) := (blk_cell BK183.out 2).trans rfl; have hcz89_3 : wr.cell? ⟨gb183, 3, none⟩ = some (.string (⟨#[]⟩ : ByteArray)) := (blk_cell BK183.out 3).trans rfl; have hfz89_0 := blk_frozen BK183.out 0; have hfz89_1 := blk_frozen BK183.out 1; have hfz89_2 := blk_frozen BK183.out 2; have hfz89_3 := blk_frozen BK183.out 3))
                      refine bodyPost_ret (results_ct rfl _ _ gb183 43 #[.int .i64 a0_0, .string a0_1, .string a0_2, .string a0_3] (0, 0) _ rfl (by (with_reducible repeat (fail)); refine blk_put (cs := #[.int .i64 a0_0, .string a0_1, .string a0_2, .string (⟨#[]⟩ : ByteArray)]) ?_ 3 _ rfl; (with_reducible repeat (fail)); refine blk_put (cs := #[.int .i64 a0_0, .string a0_1, .string (⟨#[]⟩ : ByteArray), .string (⟨#[]⟩ : ByteArray)]) ?_ 2 _ rfl; (with_reducible repeat (fail)); refine blk_put (cs := #[.int .i64 a0_0, .string (⟨#[]⟩ : ByteArray), .string (⟨#[]⟩ : ByteArray), .string (⟨#[]⟩ : ByteArray)]) ?_ 1 _ rfl; (with_reducible repeat (fail)); refine blk_put (cs := #[.int .i64 0, .string (⟨#[]⟩ : ByteArray), .string (⟨#[]⟩ : ByteArray), .string (⟨#[]⟩ : ByteArray)]) ?_ 0 _ rfl; (with_reducible repeat (fail)); exact BK183.out) Tryd.underlying43 rfl (by kernel_rfl)) rfl ?_
                      exact ⟨by rfl, by repeat ((with_reducible first | exact HB.out | refine below_set ?_ GE183.out))⟩
                    rw [if_neg c78] at H
                    exact absurd H (by simp)
                  rw [if_neg c77] at H
                  exact absurd H (by simp)
                rw [if_neg c76] at H
                exact absurd H (by simp)
          replace c38 := Bool.eq_false_iff.mpr c38
          subst c38
          have H1 : (some (a0_0, a0_1, a0_2, a0_3, a2)) = some (r1, r2, r3, r4, r5) := by rw [if_neg (show ¬ (false = true) by decide)] at H; exact H
          clear H
          have H := H1
          clear H1
          simp only [Option.some.injEq, Prod.mk.injEq] at H
          obtain ⟨rfl, rfl, rfl, rfl, rfl⟩ := H
          have hnb90 := NB182_183.out
          have hnc90 := NB183_182.out
          have hcz91_0 : wc.cell? ⟨gb182, 0, none⟩ = some (.int .i64 a0_0) := (blk_cell BK182.out 0).trans rfl
          have hcz91_1 : wc.cell? ⟨gb182, 1, none⟩ = some (.string a0_1) := (blk_cell BK182.out 1).trans rfl
          have hcz91_2 : wc.cell? ⟨gb182, 2, none⟩ = some (.string a0_2) := (blk_cell BK182.out 2).trans rfl
          have hcz91_3 : wc.cell? ⟨gb182, 3, none⟩ = some (.string a0_3) := (blk_cell BK182.out 3).trans rfl
          have hfz91_0 := blk_frozen BK182.out 0
          have hfz91_1 := blk_frozen BK182.out 1
          have hfz91_2 := blk_frozen BK182.out 2
          have hfz91_3 := blk_frozen BK182.out 3
          have hcz92_0 : wc.cell? ⟨gb183, 0, none⟩ = some (.int .i64 0) := (blk_cell BK183.out 0).trans rfl
          have hcz92_1 : wc.cell? ⟨gb183, 1, none⟩ = some (.string (⟨#[]⟩ : ByteArray)) := (blk_cell BK183.out 1).trans rfl
          have hcz92_2 : wc.cell? ⟨gb183, 2, none⟩ = some (.string (⟨#[]⟩ : ByteArray)) := (blk_cell BK183.out 2).trans rfl
          have hcz92_3 : wc.cell? ⟨gb183, 3, none⟩ = some (.string (⟨#[]⟩ : ByteArray)) := (blk_cell BK183.out 3).trans rfl
          have hfz92_0 := blk_frozen BK183.out 0
          have hfz92_1 := blk_frozen BK183.out 1
          have hfz92_2 := blk_frozen BK183.out 2
          have hfz92_3 := blk_frozen BK183.out 3
          go_wp2
          refine bodyPost_ret (results_ct rfl _ _ gb183 43 #[.int .i64 a0_0, .string a0_1, .string a0_2, .string a0_3] (0, 0) _ rfl (by (with_reducible repeat (fail)); refine blk_put (cs := #[.int .i64 a0_0, .string a0_1, .string a0_2, .string (⟨#[]⟩ : ByteArray)]) ?_ 3 _ rfl; (with_reducible repeat (fail)); refine blk_put (cs := #[.int .i64 a0_0, .string a0_1, .string (⟨#[]⟩ : ByteArray), .string (⟨#[]⟩ : ByteArray)]) ?_ 2 _ rfl; (with_reducible repeat (fail)); refine blk_put (cs := #[.int .i64 a0_0, .string (⟨#[]⟩ : ByteArray), .string (⟨#[]⟩ : ByteArray), .string (⟨#[]⟩ : ByteArray)]) ?_ 1 _ rfl; (with_reducible repeat (fail)); refine blk_put (cs := #[.int .i64 0, .string (⟨#[]⟩ : ByteArray), .string (⟨#[]⟩ : ByteArray), .string (⟨#[]⟩ : ByteArray)]) ?_ 0 _ rfl; (with_reducible repeat (fail)); exact BK183.out) Tryd.underlying43 rfl (by kernel_rfl)) rfl ?_
          exact ⟨by rfl, by repeat ((with_reducible first | exact HB.out | refine below_set ?_ GE183.out))⟩
    rw [if_neg c5] at H
    exact absurd H (by simp)
  rw [if_neg c4] at H
  exact absurd H (by simp)
end Go.Proofs.YtgabadlneeffkaaDoor.S
