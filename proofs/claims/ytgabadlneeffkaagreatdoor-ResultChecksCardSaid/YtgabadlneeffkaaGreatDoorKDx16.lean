-- Written by lp.py: a program of this session's over the kit's printer. Not trusted: Lean checks it.
import Derived.Test.YtgabadlneeffkaaGreatDoorKDx0
import Derived.Test.YtgabadlneeffkaaGreatDoorKDx5
import Derived.Test.YtgabadlneeffkaaGreatDoorKDx10
import Derived.Test.YtgabadlneeffkaaGreatDoorKDx12
import Derived.Test.YtgabadlneeffkaaGreatDoorKDx15
namespace Go.Proofs.YtgabadlneeffkaaGreatDoor.C
open Go.RowKit Go.Proofs.YtgabadlneeffkaaGreatDoorW.PrintWords Go.Proofs.YtgabadlneeffkaaGreatDoorW.PrintLast Go.Proofs.YtgabadlneeffkaaGreatDoorW.PrintMore
attribute [local go_sem] max2_int min2_int max_two min_two max_three min_three max_four min_four
set_option linter.unusedVariables false
set_option linter.unusedSimpArgs false
def atoiV (s : ByteArray) : Int := match Lib.atoiAll s.data.toList with | .ok v => v | Lib.NumEnd.syntax => 0 | .range => Lib.atoiSat s.data.toList
def atoiOk (s : ByteArray) : Bool := match Lib.atoiAll s.data.toList with | .ok _ => true | Lib.NumEnd.syntax => false | .range => false
def getMid (k : Nat) (l : List ByteArray) (a : Bool) : Option (Int × List ByteArray × List (List S43) × Bool × Int × Bool) :=
  if (rdOf ByteArray.empty l 1).toList = [114, 111, 119, 115] then (result_rows.f k (l.drop 2)).bind fun x => some (1, x.1, x.2.1, false, 0, a && x.2.2)
  else if Lib.hasPrefix (rdOf ByteArray.empty l 1).data.toList [101, 114, 114, 111, 114, 32] = true then
    (if 6 ≤ (rdOf ByteArray.empty l 1).size ∧ ((rdOf ByteArray.empty l 1).extract 6 (rdOf ByteArray.empty l 1).size).size ≤ 281474976710656 then some (3, [], [], false, atoiV ((rdOf ByteArray.empty l 1).extract 6 (rdOf ByteArray.empty l 1).size), a && atoiOk ((rdOf ByteArray.empty l 1).extract 6 (rdOf ByteArray.empty l 1).size)) else none)
  else some (2, [], [], (rdOf ByteArray.empty l 1).toList == [116, 114, 117, 101], 0, a)
def getRest (k : Nat) (L : List ByteArray) (a0 : ByteArray) : Option (Int × Int × List ByteArray × List (List S43) × Bool × Int × Int) :=
  if (rdOf ByteArray.empty L 0).size ≤ 281474976710656 then
    (getMid k L (atoiOk (rdOf ByteArray.empty L 0))).bind fun m =>
      (result_Put.f k (atoiV (rdOf ByteArray.empty L 0)) m.1 m.2.1 m.2.2.1 m.2.2.2.1 m.2.2.2.2.1).bind fun y =>
        if m.2.2.2.2.2 = true ∧ y.2 = 0 ∧ y.1.toList = a0.toList then some (atoiV (rdOf ByteArray.empty L 0), m.1, m.2.1, m.2.2.1, m.2.2.2.1, m.2.2.2.2.1, 0) else some (0, 0, [], [], false, 0, 2)
  else none
def result_Get.f (k : Nat) (a0 : ByteArray) : Option (Int × Int × List ByteArray × List (List S43) × Bool × Int × Int) :=
  if (a0.size : Int) > 65536 then some (0, 0, [], [], false, 0, 3) else
  (strings_Split.f a0 (⟨#[10]⟩ : ByteArray)).bind fun l => if l.length < 4611686018427387904 then
    (if (l.length : Int) < 3 then some (0, 0, [], [], false, 0, 2) else
    if (rdOf ByteArray.empty l ((l.length : Int) - 1)).toList = [] then getRest k (l.take (l.length - 1)) a0
    else some (0, 0, [], [], false, 0, 2))
    else none
theorem bytes_below1 {w : World} {e : TypeId} {s : ByteArray} : Below w.heap.size w (Lib.bytesWorld w e s) := bytes_below (Below.refl _ _) (Nat.le_refl _) e s
theorem atoi_calls (s : ByteArray) (hs : s.size ≤ 281474976710656) (w : World) (hG : Gl w) :
    Calls Tryz.prog 28 #[.string s] w fun e w' => ∃ ev : Value, e = .returned (.tuple #[.int .i64 (atoiV s), ev]) ∧ ((atoiOk s = true ∧ ev = .nilIface) ∨ (atoiOk s = false ∧ ∃ T N, ev = .iface T (.pointer (some ⟨N, 0, none⟩)))) ∧ Below w.heap.size w w' := by
  unfold atoiV atoiOk
  cases ha : Lib.atoiAll s.data.toList with
  | ok v =>
    refine (Tryz.strconv_Atoi_ok s (by omega) v ha w).mono ?_
    rintro e w' ⟨rfl, hw⟩
    refine ⟨_, rfl, .inl ⟨rfl, rfl⟩, ?_⟩
    rcases hw with rfl | ⟨t, rfl⟩
    · exact Below.refl _ _
    exact bytes_below1
  | range =>
    obtain ⟨tp, p, hv⟩ := hG.eran
    refine (Tryz.strconv_Atoi_range_var s hs ha tp p w hv).mono ?_
    rintro e w' ⟨N, rfl, _, _, hb⟩
    exact ⟨_, rfl, .inr ⟨rfl, _, N, rfl⟩, hb⟩
  | _ =>
    obtain ⟨tp, p, hv⟩ := hG.esyn
    refine (Tryz.strconv_Atoi_syntax_var s hs ha tp p w hv).mono ?_
    rintro e w' ⟨N, rfl, _, _, hb⟩
    exact ⟨_, rfl, .inr ⟨rfl, _, N, rfl⟩, hb⟩
theorem strs_cells {w : World} {A : Option Addr} {l : List ByteArray} (h : Kd.C Kd.string w A l.length l) (h2 : 2 ≤ l.length) : ∃ b o, A = some ⟨b, o, none⟩ ∧ w.cell? ⟨b, o, none⟩ = some (.string (rdOf ByteArray.empty l 0)) ∧ w.cell? ⟨b, o + 1, none⟩ = some (.string (rdOf ByteArray.empty l 1)) := by
  obtain ⟨ad, rfl, a0⟩ := Kd.at_string h 0 (by omega) (by omega)
  obtain ⟨ad', e', b0⟩ := Kd.at_string h 1 (by omega) (by omega)
  cases e'
  obtain ⟨b, o, sp⟩ := ad
  have hsp : sp = none := by
    cases sp with
    | none => rfl
    | some q =>
      exfalso
      have e : (⟨b, o, some q⟩ : Addr).add (0 : Int).toNat = ⟨b, o, some q⟩ := by simp [Addr.add]
      rw [e] at a0
      unfold World.cell? at a0
      revert a0
      simp only [Option.isSome_some, if_true]
      split <;> simp
  subst hsp
  exact ⟨b, o, rfl, by simpa [Addr.add] using a0, by simpa [Addr.add] using b0⟩
set_option maxHeartbeats 8000000 in
set_option maxRecDepth 1000000 in
theorem result_Get.calls (k : Nat) (a0 : ByteArray) (r1 r2 : Int) (r3 : List ByteArray) (r4 : List (List S43)) (r5 : Bool) (r6 r7 : Int) (w : World) (hG : Gl w) (h : result_Get.f k a0 = some (r1, r2, r3, r4, r5, r6, r7)) :
    Calls Tryz.prog 14 #[.string a0] w fun e w' => ∃ v0_ v1_ : Value, e = .returned (.tuple #[.agg #[.int .i64 r1, .int .i64 r2, v0_, v1_, .bool r5, .int .i64 r6], .int .i64 r7]) ∧ Kd.R Kd.string 9 w' w.heap.size (fun k_ => (w.heap.size ≤ k_)) v0_ r3 ∧ Kd.S (Kd.slice 43 k43) 40 w' w.heap.size (fun k_ => (w.heap.size ≤ k_)) v1_ r4 ∧ Below w.heap.size w w' := by
  unfold result_Get.f at h
  have HG := Aside0.mk hG
  have HH := Aside0.mk h
  clear hG h
  go_enter Tryz.func14, Tryz.ntmps14
  by_cases c0 : (a0.size : Int) > 65536
  · have c0b : decide ((a0.size : Int) > 65536) = true := decide_eq_true c0
    have h := HH.out
    rw [if_pos c0] at h
    simp only [Option.some.injEq, Prod.mk.injEq] at h
    obtain ⟨rfl, rfl, rfl, rfl, rfl, rfl, rfl⟩ := h
    replace c0 := eq_true c0
    clear HH
    go_wp2
    exact bodyPost_ret (results_ct rfl _ _ w.heap.size 28 #[.int .i64 0, .int .i64 0, .slice none 0 0, .slice none 0 0, .bool false, .int .i64 0] (0, 0) _ rfl (heap_alloc_new w _) Tryz.underlying28 rfl (by kernel_rfl)) rfl ⟨_, _, rfl, Kd.R_nil _ _ _ _ _, Kd.S_nil _ _ _ _ _, by exact below_alloc (Below.refl _ _) _⟩
  have h := HH.out
  rw [if_neg c0] at h
  obtain ⟨l, hl, h⟩ := Option.bind_eq_some_iff.1 h
  by_cases hb : l.length < 4611686018427387904
  case neg => rw [if_neg hb] at h; cases h
  rw [if_pos hb] at h
  have HBD := Aside0.mk hb
  clear hb
  have HL := Aside0.mk hl
  have HH2 := Aside0.mk h
  have c0b : ((a0.size : Int) > 65536) = False := eq_false c0
  clear HH h hl c0
  go_wp2_with fail
  refine (strings_Split.calls a0 _ l _ (Gl.below HG.out (below_alloc (Below.refl w.heap.size w) _)) HL.out).mono ?_
  rintro e w1 ⟨v0, rfl, hR, hb1⟩
  obtain ⟨A, c, rfl, hlc, hC⟩ := Kd.R_reads hR
  have HV := Aside0.mk (Kd.V_bound (Kd.R_V (base' := 0) hR))
  have hb0 := Aside0.mk ((below_alloc (Below.refl w.heap.size w) (.cells #[.int .i64 0, .int .i64 0, .slice none 0 0, .slice none 0 0, .bool false, .int .i64 0] 28)).trans (hb1.mono (by simp)))
  have HBK := Aside0.mk (show w1.heap[w.heap.size]? = some (.cells #[.int .i64 0, .int .i64 0, .slice none 0 0, .slice none 0 0, .bool false, .int .i64 0] 28 (0, 0)) from (hb1.block _ (by simp)).trans (heap_alloc_new w _))
  have HLC := Aside0.mk hlc
  have HCL := Aside0.mk hC
  clear hb1 hR hC hlc HL
  by_cases c1 : (l.length : Int) < 3
  · have c1b : decide ((l.length : Int) < 3) = true := decide_eq_true c1
    have h := HH2.out
    rw [if_pos c1] at h
    simp only [Option.some.injEq, Prod.mk.injEq] at h
    obtain ⟨rfl, rfl, rfl, rfl, rfl, rfl, rfl⟩ := h
    have hc0 := blk_cell HBK.out 0
    have hc1 := blk_cell HBK.out 1
    have hc2 := blk_cell HBK.out 2
    have hc3 := blk_cell HBK.out 3
    have hc4 := blk_cell HBK.out 4
    have hc5 := blk_cell HBK.out 5
    have hf0 := blk_frozen HBK.out 0
    have hf1 := blk_frozen HBK.out 1
    have hf2 := blk_frozen HBK.out 2
    have hf3 := blk_frozen HBK.out 3
    have hf4 := blk_frozen HBK.out 4
    have hf5 := blk_frozen HBK.out 5
    replace c1 := eq_true c1
    clear HH2 HV HCL HLC
    go_wp2
    exact bodyPost_ret (results_ct rfl _ _ w.heap.size 28 #[.int .i64 0, .int .i64 0, .slice none 0 0, .slice none 0 0, .bool false, .int .i64 0] (0, 0) _ rfl (by refine blk_put (cs := #[.int .i64 0, .int .i64 0, .slice none 0 0, .slice none 0 0, .bool false, .int .i64 0]) ?_ 5 _ rfl; refine blk_put (cs := #[.int .i64 0, .int .i64 0, .slice none 0 0, .slice none 0 0, .bool false, .int .i64 0]) ?_ 4 _ rfl; refine blk_put (cs := #[.int .i64 0, .int .i64 0, .slice none 0 0, .slice none 0 0, .bool false, .int .i64 0]) ?_ 3 _ rfl; refine blk_put (cs := #[.int .i64 0, .int .i64 0, .slice none 0 0, .slice none 0 0, .bool false, .int .i64 0]) ?_ 2 _ rfl; refine blk_put (cs := #[.int .i64 0, .int .i64 0, .slice none 0 0, .slice none 0 0, .bool false, .int .i64 0]) ?_ 1 _ rfl; refine blk_put (cs := #[.int .i64 0, .int .i64 0, .slice none 0 0, .slice none 0 0, .bool false, .int .i64 0]) ?_ 0 _ rfl; exact HBK.out) Tryz.underlying28 rfl (by kernel_rfl)) rfl ⟨_, _, rfl, Kd.R_nil _ _ _ _ _, Kd.S_nil _ _ _ _ _, by refine below_set ?_ (Nat.le_refl _); refine below_set ?_ (Nat.le_refl _); refine below_set ?_ (Nat.le_refl _); refine below_set ?_ (Nat.le_refl _); refine below_set ?_ (Nat.le_refl _); refine below_set ?_ (Nat.le_refl _); exact hb0.out⟩
  have h := HH2.out
  rw [if_neg c1] at h
  have c1b : ((l.length : Int) < 3) = False := eq_false c1
  have c1c : decide ((l.length : Int) < 3) = false := decide_eq_false c1
  obtain ⟨ad, rfl, hx⟩ := Kd.at_string HCL.out ((l.length : Int) - 1) (by omega) (by omega)
  have w1e : wrap64 ((l.length : Int) - 1) = (l.length : Int) - 1 := by have := HBD.out; unfold wrap64; omega
  have w2e : ((l.length : Int) - 1).toNat = l.length - 1 := by omega
  replace hx : w1.cell? (ad.add (wrap64 ((l.length : Int) - 1)).toNat) = some (.string (rdOf ByteArray.empty l ((l.length : Int) - 1))) := by rw [w1e]; exact hx
  have d1 : ((0 : Int) ≤ wrap64 ((l.length : Int) - 1)) = True := eq_true (by omega)
  have d2 : (wrap64 ((l.length : Int) - 1) < (l.length : Int)) = True := eq_true (by omega)
  have d3 : (wrap64 ((l.length : Int) - 1) ≤ (c : Int)) = True := eq_true (by have := HLC.out; omega)
  have d4 : ((wrap64 ((l.length : Int) - 1)).toNat ≤ c) = True := eq_true (by have := HLC.out; omega)
  have HW := Aside0.mk (show (wrap64 ((l.length : Int) - 1)).toNat = l.length - 1 by omega)
  clear w1e w2e
  have HH := Aside0.mk h
  have HN := Aside0.mk c1
  clear h HH2 c1
  by_cases c2 : (rdOf ByteArray.empty l ((l.length : Int) - 1)).toList = []
  · have h := HH.out
    rw [if_pos c2] at h
    have c2b : ((rdOf ByteArray.empty l ((l.length : Int) - 1)).toList == ([] : List UInt8)) = true := beq_iff_eq.mpr c2
    have c2c : ((rdOf ByteArray.empty l ((l.length : Int) - 1)).toList != ([] : List UInt8)) = false := bne_eq_false_iff_eq.mpr c2
    generalize rdOf ByteArray.empty l ((l.length : Int) - 1) = last at *
    clear HH c2
    go_upto_region 7 with (fail)
    rw [HW.out]
    have hL : (l.take (l.length - 1)).length = l.length - 1 := by rw [List.length_take]; omega
    have HCT := Kd.C_take HCL.out (show l.length - 1 ≤ l.length by omega)
    have HVT := Kd.V_mk (d := Kd.string) (e := 9) (base := 0) (c := c) (show (l.take (l.length - 1)).length ≤ c by have := HLC.out; omega) (Kd.F_take (Kd.V_at HV.out).2.2 (show l.length - 1 ≤ l.length by omega))
    have hn := HN.out
    rw [← hL]
    have h2 : 2 ≤ (l.take (l.length - 1)).length := by omega
    have h3 : (l.take (l.length - 1)).length < c := by have := HLC.out; omega
    clear HN HLC HCL HV HW d1 d2 d3 d4 hx c1b c1c hL hn HBD c2b c2c
    generalize l.take (l.length - 1) = L at *
    unfold getRest at h
    by_cases hs : (rdOf ByteArray.empty L 0).size ≤ 281474976710656
    case neg => rw [if_neg hs] at h; cases h
    rw [if_pos hs] at h
    obtain ⟨m, hm, h⟩ := Option.bind_eq_some_iff.1 h
    obtain ⟨y, hy, h⟩ := Option.bind_eq_some_iff.1 h
    obtain ⟨b, o, e, q0, q1⟩ := strs_cells HCT h2
    injection e with e
    subst e
    have HH := Aside0.mk h
    have HM := Aside0.mk hm
    have HY := Aside0.mk hy
    have HS := Aside0.mk hs
    have HV := Aside0.mk HVT
    have H2 := Aside0.mk h2
    have H3 := Aside0.mk h3
    have e0 : ((0 : Int) < (L.length : Int)) = True := eq_true (by omega)
    have e1 : ((1 : Int) < (L.length : Int)) = True := eq_true (by omega)
    have e0n : (0 < L.length) = True := eq_true (by omega)
    have e1n : (1 < L.length) = True := eq_true (by omega)
    clear h hm hy hs h2 h3 HCT HVT
    go_wp2_with fail
    refine (atoi_calls (rdOf ByteArray.empty L 0) HS.out _ (Gl.below HG.out hb0.out)).mono ?_
    rintro e w2 ⟨ev, rfl, hev, hb2⟩
    have q1' := pw_cell_below hb2 q1
    have HBK2 := Aside0.mk (blk_below HBK.out hb2)
    have hb02 := Aside0.mk (below_then hb0.out hb0.out.size hb2)
    have HV2 := Aside0.mk (Kd.V_below HV.out hb2)
    have hw12 := Aside0.mk hb2.size
    have HLT := Aside0.mk (blk_lt HBK2.out)
    clear hb2 q0 q1 HBK hb0 HV
    go_upto_region 9 with (fail)
    have HEV := Aside0.mk hev
    clear hev
    go_cut [8] (fun v8 wc => v8 = .bool (atoiOk (rdOf ByteArray.empty L 0)) ∧ Aside0 (wc.heap[w2.heap.size]? = some (.cells #[.int .i64 (atoiV (rdOf ByteArray.empty L 0)), .int .i64 2, .slice none 0 0, .slice none 0 0, .bool false, .int .i64 0] 28 (0, 0))) ∧ Aside0 (wc.heap[w.heap.size]? = some (.cells #[.int .i64 0, .int .i64 0, .slice none 0 0, .slice none 0 0, .bool false, .int .i64 0] 28 (0, 0))) ∧ Aside0 (wc.cell? ⟨b, o + 1, none⟩ = some (.string (rdOf ByteArray.empty L 1))) ∧ Aside0 (Kd.V Kd.string 9 wc 0 (fun k_ => True ∧ k_ < w1.heap.size) (.slice (some ⟨b, o, none⟩) L.length c) L) ∧ Aside0 (Below w.heap.size w wc) ∧ Aside0 (w2.heap.size < wc.heap.size))
    case first =>
      have fin : ∀ (W : World), W = w2.alloc (.cells #[.int .i64 (atoiV (rdOf ByteArray.empty L 0)), .int .i64 2, .slice none 0 0, .slice none 0 0, .bool false, .int .i64 0] 28) → Aside0 (W.heap[w2.heap.size]? = some (.cells #[.int .i64 (atoiV (rdOf ByteArray.empty L 0)), .int .i64 2, .slice none 0 0, .slice none 0 0, .bool false, .int .i64 0] 28 (0, 0))) ∧ Aside0 (W.heap[w.heap.size]? = some (.cells #[.int .i64 0, .int .i64 0, .slice none 0 0, .slice none 0 0, .bool false, .int .i64 0] 28 (0, 0))) ∧ Aside0 (W.cell? ⟨b, o + 1, none⟩ = some (.string (rdOf ByteArray.empty L 1))) ∧ Aside0 (Kd.V Kd.string 9 W 0 (fun k_ => True ∧ k_ < w1.heap.size) (.slice (some ⟨b, o, none⟩) L.length c) L) ∧ Aside0 (Below w.heap.size w W) ∧ Aside0 (w2.heap.size < W.heap.size) := by
        rintro W rfl
        exact ⟨⟨heap_alloc_new _ _⟩, ⟨blk_alloc HBK2.out _⟩, ⟨pw_cell_below (below_alloc (Below.refl _ _) _) q1'⟩, ⟨Kd.V_alloc HV2.out _⟩, ⟨below_alloc hb02.out _⟩, ⟨by simp⟩⟩
      have FIN := Aside0.mk fin
      clear fin q1'
      rcases HEV.out with ⟨hok, rfl⟩ | ⟨hok, T, N, rfl⟩
      · have HOK := Aside0.mk hok
        clear hok HEV
        go_wp2
        go_meet
        case rel => exact ⟨by rw [HOK.out], FIN.out _ rfl⟩
      have HOK := Aside0.mk hok
      clear hok HEV
      go_wp2
      go_meet
      case rel => exact ⟨by rw [HOK.out], FIN.out _ rfl⟩
    case rest =>
      obtain ⟨rfl, HR, HZ, HQ, HVV, HBB, HSZ⟩ := hcut
      clear HEV HBK2 hb02 HV2 q1'
      go_upto_block 0 with (fail)
      go_cut [8] (fun v8 wd => ∃ v2 v3 : Value, v8 = .bool m.2.2.2.2.2 ∧ Aside0 (wd.heap[w2.heap.size]? = some (.cells #[.int .i64 (atoiV (rdOf ByteArray.empty L 0)), .int .i64 m.1, v2, v3, .bool m.2.2.2.1, .int .i64 m.2.2.2.2.1] 28 (0, 0))) ∧ Aside0 (wd.heap[w.heap.size]? = some (.cells #[.int .i64 0, .int .i64 0, .slice none 0 0, .slice none 0 0, .bool false, .int .i64 0] 28 (0, 0))) ∧ Aside0 (Kd.R Kd.string 9 wd w.heap.size (fun k_ => w2.heap.size < k_) v2 m.2.1) ∧ Aside0 (Kd.S (Kd.slice 43 k43) 40 wd w.heap.size (fun k_ => w2.heap.size < k_) v3 m.2.2.1) ∧ Aside0 (Below w.heap.size w wd))
      case first =>
        have q := HQ.out
        have hm := HM.out
        have hf1 := blk_frozen HR.out 1
        have hf2 := blk_frozen HR.out 2
        have hf3 := blk_frozen HR.out 3
        have hf4 := blk_frozen HR.out 4
        have hf5 := blk_frozen HR.out 5
        have hr1 := blk_cell HR.out 1
        have hr2 := blk_cell HR.out 2
        have hr3 := blk_cell HR.out 3
        have hr4 := blk_cell HR.out 4
        have hr5 := blk_cell HR.out 5
        unfold getMid at hm
        have hc2 : (c = 2) = False := eq_false (by have := H2.out; have := H3.out; omega)
        have h2l : (2 ≤ L.length) = True := eq_true H2.out
        have h2i : ((2 : Int) ≤ (L.length : Int)) = True := eq_true (by have := H2.out; omega)
        clear HH HY HM HQ
        by_cases cr : (rdOf ByteArray.empty L 1).toList = [114, 111, 119, 115]
        · rw [if_pos cr] at hm
          obtain ⟨x, hx, hm⟩ := Option.bind_eq_some_iff.1 hm
          obtain rfl := Option.some.inj hm
          have crb : ((rdOf ByteArray.empty L 1).toList == [114, 111, 119, 115]) = true := beq_iff_eq.mpr cr
          have HX := Aside0.mk hx
          clear hx hm cr
          generalize rdOf ByteArray.empty L 1 = s1 at *
          go_wp2_with fail
          have hld : (L.drop 2).length = L.length - 2 := List.length_drop
          rw [← hld]
          clear hld
          have hV : Kd.V Kd.string 9 (wc.setCell ⟨w2.heap.size, 1, none⟩ (.int .i64 1)) (wc.setCell ⟨w2.heap.size, 1, none⟩ (.int .i64 1)).heap.size (fun k_ => True ∧ k_ < w1.heap.size) (.slice (some ⟨b, o + 2, none⟩) (L.drop 2).length (c - 2)) (L.drop 2) := by
            have hF := Kd.F_cut (Kd.V_at (Kd.V_far HVV.out (p := ⟨w2.heap.size, 1, none⟩) (fun k_ hk => by have := hk.2; have := hw12.out; show k_ ≠ w2.heap.size; omega) (.int .i64 1))).2.2 H2.out (show L.length ≤ c by have := H3.out; omega)
            rw [if_neg (of_eq_false hc2)] at hF
            have ea : (some (⟨b, o, none⟩ : Addr)).map (·.add (2 * Kd.string.sz)) = some ⟨b, o + 2, none⟩ := by simp [Addr.add, show Kd.string.sz = 1 from rfl]
            rw [ea] at hF
            exact Kd.V_mk (by rw [List.length_drop]; have := H3.out; omega) hF
          have hB4 := below_set (j := 1) (v := (.int .i64 1)) HBB.out (Nat.le_of_lt HLT.out)
          refine (result_rows.calls k _ (some ⟨b, o + 2, none⟩) (c - 2) (L.drop 2) x.1 x.2.1 x.2.2 _ hV (Gl.below HG.out hB4) HX.out).mono ?_
          rintro e w5 ⟨v0, v1, rfl, hR, hS, hb⟩
          have hsz : (wc.setCell ⟨w2.heap.size, 1, none⟩ (.int .i64 1)).heap.size = wc.heap.size := by simp
          obtain ⟨A5, c5, rfl, _, _⟩ := Kd.R_reads hR
          obtain ⟨A6, c6, rfl, _, _⟩ := Kd.S_reads hS
          rw [hsz] at hR hS
          have HR5 := Aside0.mk (blk_below (blk_put HR.out 1 (.int .i64 1) rfl) hb)
          have HZ5 := Aside0.mk (blk_below (blk_far HZ.out (p := ⟨w2.heap.size, 1, none⟩) (by show w.heap.size ≠ w2.heap.size; have := HLT.out; omega) (.int .i64 1)) hb)
          have HB5 := Aside0.mk (below_then hB4 hB4.size hb)
          have HRR := Aside0.mk (Kd.R_lower (Kd.R_mono (ok' := fun k_ => w2.heap.size < k_) hR (fun k_ hk => Nat.lt_of_lt_of_le HSZ.out hk)) HBB.out.size)
          have HSS := Aside0.mk (Kd.S_lower (Kd.S_mono (ok' := fun k_ => w2.heap.size < k_) hS (fun k_ hk => Nat.lt_of_lt_of_le HSZ.out hk)) HBB.out.size)
          have hf2 := blk_frozen HR5.out 2
          have hf3 := blk_frozen HR5.out 3
          have hr2 := blk_cell HR5.out 2
          have hr3 := blk_cell HR5.out 3
          clear hR hS hb hB4 hV hsz hf1 hf4 hf5 hr1 hr4 hr5 q HX
          have FIN := Aside0.mk (show ∀ W : World, W = ((w5.setCell ⟨w2.heap.size, 2, none⟩ (.slice A5 x.1.length c5)).setCell ⟨w2.heap.size, 3, none⟩ (.slice A6 x.2.1.length c6)) → Aside0 (W.heap[w2.heap.size]? = some (.cells #[.int .i64 (atoiV (rdOf ByteArray.empty L 0)), .int .i64 1, .slice A5 x.1.length c5, .slice A6 x.2.1.length c6, .bool false, .int .i64 0] 28 (0, 0))) ∧ Aside0 (W.heap[w.heap.size]? = some (.cells #[.int .i64 0, .int .i64 0, .slice none 0 0, .slice none 0 0, .bool false, .int .i64 0] 28 (0, 0))) ∧ Aside0 (Kd.R Kd.string 9 W w.heap.size (fun k_ => w2.heap.size < k_) (.slice A5 x.1.length c5) x.1) ∧ Aside0 (Kd.S (Kd.slice 43 k43) 40 W w.heap.size (fun k_ => w2.heap.size < k_) (.slice A6 x.2.1.length c6) x.2.1) ∧ Aside0 (Below w.heap.size w W) from by
            rintro W rfl
            have hne : w.heap.size ≠ w2.heap.size := Nat.ne_of_lt HLT.out
            have hle : w.heap.size ≤ w2.heap.size := Nat.le_of_lt HLT.out
            have hk : ∀ k_, w2.heap.size < k_ → k_ ≠ w2.heap.size := fun k_ h_ => Nat.ne_of_gt h_
            exact ⟨⟨blk_put (blk_put HR5.out 2 _ rfl) 3 _ rfl⟩, ⟨blk_far (blk_far HZ5.out (p := ⟨w2.heap.size, 2, none⟩) hne _) (p := ⟨w2.heap.size, 3, none⟩) hne _⟩, ⟨Kd.R_far (Kd.R_far HRR.out (p := ⟨w2.heap.size, 2, none⟩) hk _) (p := ⟨w2.heap.size, 3, none⟩) hk _⟩, ⟨Kd.S_far (Kd.S_far HSS.out (p := ⟨w2.heap.size, 2, none⟩) hk _) (p := ⟨w2.heap.size, 3, none⟩) hk _⟩, ⟨below_set (below_set HB5.out hle) hle⟩⟩)
          rcases Bool.eq_false_or_eq_true (atoiOk (rdOf ByteArray.empty L 0)) with hok | hok
          all_goals
            rw [hok]
            have HOK := Aside0.mk hok
            clear hok
            go_wp2
            go_meet
            case rel => exact ⟨_, _, by rw [HOK.out]; rfl, FIN.out _ rfl⟩
        rw [if_neg cr] at hm
        have crb : ((rdOf ByteArray.empty L 1).toList == [114, 111, 119, 115]) = false := beq_eq_false_iff_ne.mpr cr
        clear cr
        generalize rdOf ByteArray.empty L 1 = s1 at *
        have HM := Aside0.mk hm
        clear hm
        go_wp2_with fail
        refine (Tryz.strings_HasPrefix s1 _ _).mono ?_
        rintro e w5 ⟨rfl, rfl⟩
        have hm := HM.out
        by_cases cp : Lib.hasPrefix s1.data.toList [101, 114, 114, 111, 114, 32] = true
        · rw [if_pos cp] at hm
          by_cases hz : 6 ≤ s1.size ∧ (s1.extract 6 s1.size).size ≤ 281474976710656
          case neg => rw [if_neg hz] at hm; cases hm
          rw [if_pos hz] at hm
          obtain rfl := Option.some.inj hm
          have HZZ := Aside0.mk hz.2
          have hz1 : (6 ≤ s1.size) = True := eq_true hz.1
          have hz2 : ((6 : Int) ≤ (s1.size : Int)) = True := eq_true (by have := hz.1; omega)
          have cpb : Lib.hasPrefix s1.data.toList (⟨#[101, 114, 114, 111, 114, 32]⟩ : ByteArray).data.toList = true := cp
          clear hm hz cp HM
          rw [cpb]
          clear cpb
          go_wp2_with fail
          refine (atoi_calls (s1.extract 6 s1.size) HZZ.out _ (Gl.below HG.out HBB.out)).mono ?_
          rintro e w6 ⟨ev2, rfl, hev2, hb6⟩
          have HR6 := Aside0.mk (blk_below HR.out hb6)
          have HZ6 := Aside0.mk (blk_below HZ.out hb6)
          have HB6 := Aside0.mk (below_then HBB.out HBB.out.size hb6)
          have hf1 := blk_frozen HR6.out 1
          have hf5 := blk_frozen HR6.out 5
          have hr1 := blk_cell HR6.out 1
          have hr5 := blk_cell HR6.out 5
          have HEV := Aside0.mk hev2
          clear hb6 hev2 q HR HZ HVV HSZ HBB hf2 hf3 hf4 hr2 hr3 hr4
          have FIN := Aside0.mk (show ∀ W : World, W = ((w6.setCell ⟨w2.heap.size, 1, none⟩ (.int .i64 3)).setCell ⟨w2.heap.size, 5, none⟩ (.int .i64 (atoiV (s1.extract 6 s1.size)))) → Aside0 (W.heap[w2.heap.size]? = some (.cells #[.int .i64 (atoiV (rdOf ByteArray.empty L 0)), .int .i64 3, .slice none 0 0, .slice none 0 0, .bool false, .int .i64 (atoiV (s1.extract 6 s1.size))] 28 (0, 0))) ∧ Aside0 (W.heap[w.heap.size]? = some (.cells #[.int .i64 0, .int .i64 0, .slice none 0 0, .slice none 0 0, .bool false, .int .i64 0] 28 (0, 0))) ∧ Aside0 (Kd.R Kd.string 9 W w.heap.size (fun k_ => w2.heap.size < k_) (.slice none 0 0) []) ∧ Aside0 (Kd.S (Kd.slice 43 k43) 40 W w.heap.size (fun k_ => w2.heap.size < k_) (.slice none 0 0) []) ∧ Aside0 (Below w.heap.size w W) from by
            rintro W rfl
            have hne : w.heap.size ≠ w2.heap.size := Nat.ne_of_lt HLT.out
            have hle : w.heap.size ≤ w2.heap.size := Nat.le_of_lt HLT.out
            exact ⟨⟨(blk_put (blk_put HR6.out 1 _ rfl) 5 _ rfl)⟩, ⟨(blk_far (blk_far HZ6.out (p := ⟨w2.heap.size, 1, none⟩) hne _) (p := ⟨w2.heap.size, 5, none⟩) hne _)⟩, ⟨Kd.R_nil _ _ _ _ _⟩, ⟨Kd.S_nil _ _ _ _ _⟩, ⟨(below_set (below_set HB6.out hle) hle)⟩⟩)
          rcases Bool.eq_false_or_eq_true (atoiOk (rdOf ByteArray.empty L 0)) with hok | hok
          all_goals
            rw [hok]
            have HOK := Aside0.mk hok
            clear hok
            rcases HEV.out with ⟨hok2, rfl⟩ | ⟨hok2, T, N, rfl⟩
            all_goals
              have HOK2 := Aside0.mk hok2
              clear hok2 HEV
              go_wp2
              go_meet
              case rel => exact ⟨_, _, by rw [HOK.out, HOK2.out]; rfl, FIN.out _ rfl⟩
        rw [if_neg cp] at hm
        obtain rfl := Option.some.inj hm
        have cpb : Lib.hasPrefix s1.data.toList (⟨#[101, 114, 114, 111, 114, 32]⟩ : ByteArray).data.toList = false := by simpa using cp
        have FIN := Aside0.mk (show ∀ W : World, W = (w5.setCell ⟨w2.heap.size, 4, none⟩ (.bool (s1.toList == [116, 114, 117, 101]))) → Aside0 (W.heap[w2.heap.size]? = some (.cells #[.int .i64 (atoiV (rdOf ByteArray.empty L 0)), .int .i64 2, .slice none 0 0, .slice none 0 0, .bool (s1.toList == [116, 114, 117, 101]), .int .i64 0] 28 (0, 0))) ∧ Aside0 (W.heap[w.heap.size]? = some (.cells #[.int .i64 0, .int .i64 0, .slice none 0 0, .slice none 0 0, .bool false, .int .i64 0] 28 (0, 0))) ∧ Aside0 (Kd.R Kd.string 9 W w.heap.size (fun k_ => w2.heap.size < k_) (.slice none 0 0) []) ∧ Aside0 (Kd.S (Kd.slice 43 k43) 40 W w.heap.size (fun k_ => w2.heap.size < k_) (.slice none 0 0) []) ∧ Aside0 (Below w.heap.size w W) from by
          rintro W rfl
          have hne : w.heap.size ≠ w2.heap.size := Nat.ne_of_lt HLT.out
          have hle : w.heap.size ≤ w2.heap.size := Nat.le_of_lt HLT.out
          exact ⟨⟨(blk_put HR.out 4 _ rfl)⟩, ⟨(blk_far HZ.out (p := ⟨w2.heap.size, 4, none⟩) hne _)⟩, ⟨Kd.R_nil _ _ _ _ _⟩, ⟨Kd.S_nil _ _ _ _ _⟩, ⟨(below_set HBB.out hle)⟩⟩)
        clear hm cp HM
        rw [cpb]
        clear cpb
        go_wp2
        go_meet
        case rel => exact ⟨_, _, rfl, FIN.out _ rfl⟩
      case rest =>
        obtain ⟨v2, v3, rfl, HR2, HZ2, HRV, HSV, HB2⟩ := hcut
        clear HR HZ HQ HVV HBB HSZ HM HS H2 H3 e0 e1 e0n e1n hw12
        obtain ⟨A2, c2_, rfl, hl2, hC2⟩ := Kd.R_reads HRV.out
        obtain ⟨A3, c3_, rfl, hl3, hC3⟩ := Kd.S_reads HSV.out
        have HL2 := Aside0.mk hl2
        have HC2 := Aside0.mk hC2
        have hg0 := blk_cell HR2.out 0
        have hg1 := blk_cell HR2.out 1
        have hg2 := blk_cell HR2.out 2
        have hg3 := blk_cell HR2.out 3
        have hg4 := blk_cell HR2.out 4
        have hg5 := blk_cell HR2.out 5
        clear hl2 hC2 hl3 hC3
        go_wp2_with fail
        refine (result_Put.calls k (atoiV (rdOf ByteArray.empty L 0)) m.1 A2 c2_ m.2.1 _ A3 c3_ m.2.2.1 m.2.2.2.1 m.2.2.2.2.1 y.1 y.2 _ HC2.out HL2.out (Kd.S_V HSV.out) (Gl.below HG.out HB2.out) HY.out).mono ?_
        rintro e w7 ⟨rfl, hb7⟩
        have HR7 := Aside0.mk (blk_below HR2.out hb7)
        have HZ7 := Aside0.mk (blk_below HZ2.out hb7)
        have HB7 := Aside0.mk (below_then HB2.out HB2.out.size hb7)
        have HRV7 := Aside0.mk (Kd.R_below HRV.out hb7)
        have HSV7 := Aside0.mk (Kd.S_below HSV.out hb7)
        have h := HH.out
        clear hb7 HR2 HZ2 HB2 HRV HSV HL2 HC2 HY HH hg0 hg1 hg2 hg3 hg4 hg5
        have hg0 := blk_cell HR7.out 0
        have hg1 := blk_cell HR7.out 1
        have hg2 := blk_cell HR7.out 2
        have hg3 := blk_cell HR7.out 3
        have hg4 := blk_cell HR7.out 4
        have hg5 := blk_cell HR7.out 5
        have hc0 := blk_cell HZ7.out 0
        have hc1 := blk_cell HZ7.out 1
        have hc2 := blk_cell HZ7.out 2
        have hc3 := blk_cell HZ7.out 3
        have hc4 := blk_cell HZ7.out 4
        have hc5 := blk_cell HZ7.out 5
        have hf0 := blk_frozen HZ7.out 0
        have hf1 := blk_frozen HZ7.out 1
        have hf2 := blk_frozen HZ7.out 2
        have hf3 := blk_frozen HZ7.out 3
        have hf4 := blk_frozen HZ7.out 4
        have hf5 := blk_frozen HZ7.out 5
        rcases Bool.eq_false_or_eq_true m.2.2.2.2.2 with hmo | hmo
        · rw [hmo]
          by_cases k1 : y.2 = 0
          · have c0b : ((y.2 : Int) != 0) = false := bne_eq_false_iff_eq.mpr k1
            by_cases k2 : y.1.toList = a0.toList
            · rw [if_pos ⟨hmo, k1, k2⟩] at h
              simp only [Option.some.injEq, Prod.mk.injEq] at h
              obtain ⟨rfl, rfl, rfl, rfl, rfl, rfl, rfl⟩ := h
              have c1b : (y.1.toList == a0.toList) = true := beq_iff_eq.mpr k2
              have c1c : (y.1.toList != a0.toList) = false := bne_eq_false_iff_eq.mpr k2
              clear k1 k2 hmo
              go_wp2
              refine bodyPost_ret (results_ct rfl _ _ w.heap.size 28 #[.int .i64 (atoiV (rdOf ByteArray.empty L 0)), .int .i64 m.1, .slice A2 m.2.1.length c2_, .slice A3 m.2.2.1.length c3_, .bool m.2.2.2.1, .int .i64 m.2.2.2.2.1] (0, 0) _ rfl (by refine blk_put (cs := #[.int .i64 (atoiV (rdOf ByteArray.empty L 0)), .int .i64 m.1, .slice A2 m.2.1.length c2_, .slice A3 m.2.2.1.length c3_, .bool m.2.2.2.1, .int .i64 0]) ?_ 5 _ rfl; refine blk_put (cs := #[.int .i64 (atoiV (rdOf ByteArray.empty L 0)), .int .i64 m.1, .slice A2 m.2.1.length c2_, .slice A3 m.2.2.1.length c3_, .bool false, .int .i64 0]) ?_ 4 _ rfl; refine blk_put (cs := #[.int .i64 (atoiV (rdOf ByteArray.empty L 0)), .int .i64 m.1, .slice A2 m.2.1.length c2_, .slice none 0 0, .bool false, .int .i64 0]) ?_ 3 _ rfl; refine blk_put (cs := #[.int .i64 (atoiV (rdOf ByteArray.empty L 0)), .int .i64 m.1, .slice none 0 0, .slice none 0 0, .bool false, .int .i64 0]) ?_ 2 _ rfl; refine blk_put (cs := #[.int .i64 (atoiV (rdOf ByteArray.empty L 0)), .int .i64 0, .slice none 0 0, .slice none 0 0, .bool false, .int .i64 0]) ?_ 1 _ rfl; refine blk_put (cs := #[.int .i64 0, .int .i64 0, .slice none 0 0, .slice none 0 0, .bool false, .int .i64 0]) ?_ 0 _ rfl; exact HZ7.out) Tryz.underlying28 rfl (by kernel_rfl)) rfl ⟨_, _, rfl, ?_, ?_, ?_⟩
              · have hk : ∀ k_, w.heap.size < k_ → k_ ≠ w.heap.size := fun k_ h_ => Nat.ne_of_gt h_
                refine Kd.R_mono (ok := fun k_ => w.heap.size < k_) ?_ (fun k_ hk_ => Nat.le_of_lt hk_)
                refine Kd.R_far ?_ hk _; refine Kd.R_far ?_ hk _; refine Kd.R_far ?_ hk _; refine Kd.R_far ?_ hk _; refine Kd.R_far ?_ hk _; refine Kd.R_far ?_ hk _; exact Kd.R_mono HRV7.out (fun k_ hk_ => Nat.lt_trans HLT.out hk_)
              · have hk : ∀ k_, w.heap.size < k_ → k_ ≠ w.heap.size := fun k_ h_ => Nat.ne_of_gt h_
                refine Kd.S_mono (ok := fun k_ => w.heap.size < k_) ?_ (fun k_ hk_ => Nat.le_of_lt hk_)
                refine Kd.S_far ?_ hk _; refine Kd.S_far ?_ hk _; refine Kd.S_far ?_ hk _; refine Kd.S_far ?_ hk _; refine Kd.S_far ?_ hk _; refine Kd.S_far ?_ hk _; exact Kd.S_mono HSV7.out (fun k_ hk_ => Nat.lt_trans HLT.out hk_)
              refine below_set ?_ (Nat.le_refl _); refine below_set ?_ (Nat.le_refl _); refine below_set ?_ (Nat.le_refl _); refine below_set ?_ (Nat.le_refl _); refine below_set ?_ (Nat.le_refl _); refine below_set ?_ (Nat.le_refl _); exact HB7.out
            have dummy_ : True := trivial
            rw [if_neg (fun h_ => k2 h_.2.2)] at h
            simp only [Option.some.injEq, Prod.mk.injEq] at h
            obtain ⟨rfl, rfl, rfl, rfl, rfl, rfl, rfl⟩ := h
            have c1b : (y.1.toList == a0.toList) = false := beq_eq_false_iff_ne.mpr k2
            have c1c : (y.1.toList != a0.toList) = true := bne_iff_ne.mpr k2
            clear k1 k2 hmo
            go_wp2
            exact bodyPost_ret (results_ct rfl _ _ w.heap.size 28 #[.int .i64 0, .int .i64 0, .slice none 0 0, .slice none 0 0, .bool false, .int .i64 0] (0, 0) _ rfl (by refine blk_put (cs := #[.int .i64 0, .int .i64 0, .slice none 0 0, .slice none 0 0, .bool false, .int .i64 0]) ?_ 5 _ rfl; refine blk_put (cs := #[.int .i64 0, .int .i64 0, .slice none 0 0, .slice none 0 0, .bool false, .int .i64 0]) ?_ 4 _ rfl; refine blk_put (cs := #[.int .i64 0, .int .i64 0, .slice none 0 0, .slice none 0 0, .bool false, .int .i64 0]) ?_ 3 _ rfl; refine blk_put (cs := #[.int .i64 0, .int .i64 0, .slice none 0 0, .slice none 0 0, .bool false, .int .i64 0]) ?_ 2 _ rfl; refine blk_put (cs := #[.int .i64 0, .int .i64 0, .slice none 0 0, .slice none 0 0, .bool false, .int .i64 0]) ?_ 1 _ rfl; refine blk_put (cs := #[.int .i64 0, .int .i64 0, .slice none 0 0, .slice none 0 0, .bool false, .int .i64 0]) ?_ 0 _ rfl; exact HZ7.out) Tryz.underlying28 rfl (by kernel_rfl)) rfl ⟨_, _, rfl, Kd.R_nil _ _ _ _ _, Kd.S_nil _ _ _ _ _, by refine below_set ?_ (Nat.le_refl _); refine below_set ?_ (Nat.le_refl _); refine below_set ?_ (Nat.le_refl _); refine below_set ?_ (Nat.le_refl _); refine below_set ?_ (Nat.le_refl _); refine below_set ?_ (Nat.le_refl _); exact HB7.out⟩
          rw [if_neg (fun h_ => k1 h_.2.1)] at h
          simp only [Option.some.injEq, Prod.mk.injEq] at h
          obtain ⟨rfl, rfl, rfl, rfl, rfl, rfl, rfl⟩ := h
          have c0b : ((y.2 : Int) != 0) = true := bne_iff_ne.mpr k1
          clear k1 hmo
          go_wp2
          exact bodyPost_ret (results_ct rfl _ _ w.heap.size 28 #[.int .i64 0, .int .i64 0, .slice none 0 0, .slice none 0 0, .bool false, .int .i64 0] (0, 0) _ rfl (by refine blk_put (cs := #[.int .i64 0, .int .i64 0, .slice none 0 0, .slice none 0 0, .bool false, .int .i64 0]) ?_ 5 _ rfl; refine blk_put (cs := #[.int .i64 0, .int .i64 0, .slice none 0 0, .slice none 0 0, .bool false, .int .i64 0]) ?_ 4 _ rfl; refine blk_put (cs := #[.int .i64 0, .int .i64 0, .slice none 0 0, .slice none 0 0, .bool false, .int .i64 0]) ?_ 3 _ rfl; refine blk_put (cs := #[.int .i64 0, .int .i64 0, .slice none 0 0, .slice none 0 0, .bool false, .int .i64 0]) ?_ 2 _ rfl; refine blk_put (cs := #[.int .i64 0, .int .i64 0, .slice none 0 0, .slice none 0 0, .bool false, .int .i64 0]) ?_ 1 _ rfl; refine blk_put (cs := #[.int .i64 0, .int .i64 0, .slice none 0 0, .slice none 0 0, .bool false, .int .i64 0]) ?_ 0 _ rfl; exact HZ7.out) Tryz.underlying28 rfl (by kernel_rfl)) rfl ⟨_, _, rfl, Kd.R_nil _ _ _ _ _, Kd.S_nil _ _ _ _ _, by refine below_set ?_ (Nat.le_refl _); refine below_set ?_ (Nat.le_refl _); refine below_set ?_ (Nat.le_refl _); refine below_set ?_ (Nat.le_refl _); refine below_set ?_ (Nat.le_refl _); refine below_set ?_ (Nat.le_refl _); exact HB7.out⟩
        rw [hmo]
        rw [if_neg (fun h_ => by rw [hmo] at h_; exact absurd h_.1 (by decide))] at h
        simp only [Option.some.injEq, Prod.mk.injEq] at h
        obtain ⟨rfl, rfl, rfl, rfl, rfl, rfl, rfl⟩ := h
        clear hmo
        go_wp2
        exact bodyPost_ret (results_ct rfl _ _ w.heap.size 28 #[.int .i64 0, .int .i64 0, .slice none 0 0, .slice none 0 0, .bool false, .int .i64 0] (0, 0) _ rfl (by refine blk_put (cs := #[.int .i64 0, .int .i64 0, .slice none 0 0, .slice none 0 0, .bool false, .int .i64 0]) ?_ 5 _ rfl; refine blk_put (cs := #[.int .i64 0, .int .i64 0, .slice none 0 0, .slice none 0 0, .bool false, .int .i64 0]) ?_ 4 _ rfl; refine blk_put (cs := #[.int .i64 0, .int .i64 0, .slice none 0 0, .slice none 0 0, .bool false, .int .i64 0]) ?_ 3 _ rfl; refine blk_put (cs := #[.int .i64 0, .int .i64 0, .slice none 0 0, .slice none 0 0, .bool false, .int .i64 0]) ?_ 2 _ rfl; refine blk_put (cs := #[.int .i64 0, .int .i64 0, .slice none 0 0, .slice none 0 0, .bool false, .int .i64 0]) ?_ 1 _ rfl; refine blk_put (cs := #[.int .i64 0, .int .i64 0, .slice none 0 0, .slice none 0 0, .bool false, .int .i64 0]) ?_ 0 _ rfl; exact HZ7.out) Tryz.underlying28 rfl (by kernel_rfl)) rfl ⟨_, _, rfl, Kd.R_nil _ _ _ _ _, Kd.S_nil _ _ _ _ _, by refine below_set ?_ (Nat.le_refl _); refine below_set ?_ (Nat.le_refl _); refine below_set ?_ (Nat.le_refl _); refine below_set ?_ (Nat.le_refl _); refine below_set ?_ (Nat.le_refl _); refine below_set ?_ (Nat.le_refl _); exact HB7.out⟩
  clear HW
  have h := HH.out
  rw [if_neg c2] at h
  simp only [Option.some.injEq, Prod.mk.injEq] at h
  obtain ⟨rfl, rfl, rfl, rfl, rfl, rfl, rfl⟩ := h
  have c2b : ((rdOf ByteArray.empty l ((l.length : Int) - 1)).toList == ([] : List UInt8)) = false := beq_eq_false_iff_ne.mpr c2
  have c2c : ((rdOf ByteArray.empty l ((l.length : Int) - 1)).toList != ([] : List UInt8)) = true := bne_iff_ne.mpr c2
  have hc0 := blk_cell HBK.out 0
  have hc1 := blk_cell HBK.out 1
  have hc2 := blk_cell HBK.out 2
  have hc3 := blk_cell HBK.out 3
  have hc4 := blk_cell HBK.out 4
  have hc5 := blk_cell HBK.out 5
  have hf0 := blk_frozen HBK.out 0
  have hf1 := blk_frozen HBK.out 1
  have hf2 := blk_frozen HBK.out 2
  have hf3 := blk_frozen HBK.out 3
  have hf4 := blk_frozen HBK.out 4
  have hf5 := blk_frozen HBK.out 5
  clear HH c2 HV HCL HLC
  go_wp2
  exact bodyPost_ret (results_ct rfl _ _ w.heap.size 28 #[.int .i64 0, .int .i64 0, .slice none 0 0, .slice none 0 0, .bool false, .int .i64 0] (0, 0) _ rfl (by refine blk_put (cs := #[.int .i64 0, .int .i64 0, .slice none 0 0, .slice none 0 0, .bool false, .int .i64 0]) ?_ 5 _ rfl; refine blk_put (cs := #[.int .i64 0, .int .i64 0, .slice none 0 0, .slice none 0 0, .bool false, .int .i64 0]) ?_ 4 _ rfl; refine blk_put (cs := #[.int .i64 0, .int .i64 0, .slice none 0 0, .slice none 0 0, .bool false, .int .i64 0]) ?_ 3 _ rfl; refine blk_put (cs := #[.int .i64 0, .int .i64 0, .slice none 0 0, .slice none 0 0, .bool false, .int .i64 0]) ?_ 2 _ rfl; refine blk_put (cs := #[.int .i64 0, .int .i64 0, .slice none 0 0, .slice none 0 0, .bool false, .int .i64 0]) ?_ 1 _ rfl; refine blk_put (cs := #[.int .i64 0, .int .i64 0, .slice none 0 0, .slice none 0 0, .bool false, .int .i64 0]) ?_ 0 _ rfl; exact HBK.out) Tryz.underlying28 rfl (by kernel_rfl)) rfl ⟨_, _, rfl, Kd.R_nil _ _ _ _ _, Kd.S_nil _ _ _ _ _, by refine below_set ?_ (Nat.le_refl _); refine below_set ?_ (Nat.le_refl _); refine below_set ?_ (Nat.le_refl _); refine below_set ?_ (Nat.le_refl _); refine below_set ?_ (Nat.le_refl _); refine below_set ?_ (Nat.le_refl _); exact hb0.out⟩
def legationlaw17_awake.f (k : Nat)  : Option (Bool) := (result_Get.f k (⟨#[55, 10, 114, 111, 119, 115, 10, 63, 120, 9, 63, 121, 10, 60, 97, 62, 9, 10]⟩ : ByteArray)).bind fun bt292 => (if bt292.2.2.2.2.2.2 = 0 then (if bt292.1 = 7 then (if (bt292.2.2.2.1.length : Int) = 1 then (if 0 < (bt292.2.2.2.1.length : Int) then (if ((rd_L3 bt292.2.2.2.1 0).length : Int) = 2 then (if 0 < ((rd_L3 bt292.2.2.2.1 0).length : Int) then (some (((rd_T43 (rd_L3 bt292.2.2.2.1 0) 0).f1).toList == ([97] : List UInt8))) else (none)) else (some false)) else (none)) else (some false)) else (some false)) else (some false))
set_option maxHeartbeats 8000000 in
set_option maxRecDepth 100000 in
theorem legationlaw17_awake.calls (k : Nat)  (r : Bool) (w : World) (hG : Gl w) (h : legationlaw17_awake.f k  = some r) :
    Calls Tryz.prog 8 #[] w fun e w' => e = .returned (.bool r) ∧ Below w.heap.size w w' := by
  have hu28 := Tryz.underlying28
  have HGL := Aside0.mk hG
  clear hG
  have HB := Aside0.mk (Below.refl w.heap.size w)
  have H : ((result_Get.f k (⟨#[55, 10, 114, 111, 119, 115, 10, 63, 120, 9, 63, 121, 10, 60, 97, 62, 9, 10]⟩ : ByteArray)).bind fun bt292 => (if bt292.2.2.2.2.2.2 = 0 then (if bt292.1 = 7 then (if (bt292.2.2.2.1.length : Int) = 1 then (if 0 < (bt292.2.2.2.1.length : Int) then (if ((rd_L3 bt292.2.2.2.1 0).length : Int) = 2 then (if 0 < ((rd_L3 bt292.2.2.2.1 0).length : Int) then (some (((rd_T43 (rd_L3 bt292.2.2.2.1 0) 0).f1).toList == ([97] : List UInt8))) else (none)) else (some false)) else (none)) else (some false)) else (some false)) else (some false))) = some r := h
  clear h
  replace H := Option.bind_eq_some_iff.mp H
  obtain ⟨⟨t292, t293, t294, t297, t300, t301, t302⟩, A10, H⟩ := H
  replace H : (if t302 = 0 then (if t292 = 7 then (if (t297.length : Int) = 1 then (if 0 < (t297.length : Int) then (if ((rd_L3 t297 0).length : Int) = 2 then (if 0 < ((rd_L3 t297 0).length : Int) then (some (((rd_T43 (rd_L3 t297 0) 0).f1).toList == ([97] : List UInt8))) else (none)) else (some false)) else (none)) else (some false)) else (some false)) else (some false)) = some r := H
  have A1 := Aside0.mk A10
  clear A10
  by_cases c2 : t302 = 0
  · rw [if_pos c2] at H
    have c2b0 : (t302 == 0) = true := beq_iff_eq.mpr c2
    have c2b1 : (t302 != 0) = false := bne_eq_false_iff_eq.mpr c2
    clear c2
    by_cases c3 : t292 = 7
    · rw [if_pos c3] at H
      have c3b0 : (t292 == 7) = true := beq_iff_eq.mpr c3
      have c3b1 : (t292 != 7) = false := bne_eq_false_iff_eq.mpr c3
      clear c3
      by_cases c4 : (t297.length : Int) = 1
      · rw [if_pos c4] at H
        have c4b0 : ((t297.length : Int) == 1) = true := beq_iff_eq.mpr c4
        have c4b1 : ((t297.length : Int) != 1) = false := bne_eq_false_iff_eq.mpr c4
        clear c4
        by_cases c5 : 0 < (t297.length : Int)
        · rw [if_pos c5] at H
          have c5b0 : decide (0 < (t297.length : Int)) = true := decide_eq_true c5
          have c5b1 : decide (0 < t297.length) = true := decide_eq_true (by omega)
          clear c5
          by_cases c6 : ((rd_L3 t297 0).length : Int) = 2
          · rw [if_pos c6] at H
            have c6b0 : (((rd_L3 t297 0).length : Int) == 2) = true := beq_iff_eq.mpr c6
            have c6b1 : (((rd_L3 t297 0).length : Int) != 2) = false := bne_eq_false_iff_eq.mpr c6
            clear c6
            by_cases c7 : 0 < ((rd_L3 t297 0).length : Int)
            · rw [if_pos c7] at H
              have c7b0 : decide (0 < ((rd_L3 t297 0).length : Int)) = true := decide_eq_true c7
              have c7b1 : decide (0 < (rd_L3 t297 0).length) = true := decide_eq_true (by omega)
              clear c7
              obtain rfl := Option.some.inj H
              go_enter Tryz.func8, Tryz.ntmps8
              go_wp2_with (first | ((with_reducible refine gate_callee (f := 14) rfl ?_); refine goesL_ (some 4) rfl rfl Tryz.func14 (by kernel_rfl) rfl #[.string (⟨#[55, 10, 114, 111, 119, 115, 10, 63, 120, 9, 63, 121, 10, 60, 97, 62, 9, 10]⟩ : ByteArray)] rfl (by (try simp only [List.map_toArray, List.map_cons, List.map_nil]); rfl) ?_; (with_reducible refine (result_Get.calls k (⟨#[55, 10, 114, 111, 119, 115, 10, 63, 120, 9, 63, 121, 10, 60, 97, 62, 9, 10]⟩ : ByteArray) t292 t293 t294 t297 t300 t301 t302 _ (Gl.below HGL.out (by repeat ((with_reducible exact HB.out)))) A1.out).mono ?_); rintro e w8 ⟨v295, v298, rfl, ho0, ho1, hb⟩; refine ⟨_, rfl, ?_⟩; have n0_ := Aside0.mk (Kd.R_lower ho0 (below_size (by repeat ((with_reducible exact HB.out))))); have n1_ := Aside0.mk (Kd.S_lower ho1 (below_size (by repeat ((with_reducible exact HB.out))))); have n2_ := Aside0.mk (below_step (by repeat ((with_reducible exact HB.out))) hb); clear HB; have HO296 := n0_; have HO299 := n1_; have HB := n2_; clear n0_ n1_ n2_; (try clear hb); (try clear ho0); (try clear ho1)) | ((with_reducible refine gate_dst (N := 1) rfl ?_); (try (refine gate_guard (by rfl) ?_; dsimp only)); refine box_event ?hg (N := 1) ?hd (cs := #[.int .i64 0, .int .i64 0, .slice none 0 0, .slice none 0 0, .bool false, .int .i64 0]) (t := 28) ?hr ?_; (case hd => rfl); (case hg => rfl); (case hr => (go_simp; done)); intro gb303 hg w9 hbox hb; have n0_ := Aside0.mk (Kd.R_below (by (with_reducible repeat (fail)); exact HO296.out) hb); have n1_ := Aside0.mk (Kd.S_below (by (with_reducible repeat (fail)); exact HO299.out) hb); have n2_ := Aside0.mk (below_step (by repeat ((with_reducible exact HB.out))) hb); have n3_ := Aside0.mk (hbox); have n4_ := Aside0.mk ((by rw [hg]; exact (below_size (by repeat ((with_reducible exact HB.out)))) : w.heap.size ≤ gb303)); have n5_ := Aside0.mk ((by rw [hg]; exact (below_size (by repeat ((with_reducible exact HB.out)))) : w.heap.size ≤ gb303)); clear HO296; clear HO299; clear HB; have HO296 := n0_; have HO299 := n1_; have HB := n2_; have BK303 := n3_; have GW303 := n4_; have GE303 := n5_; clear n0_ n1_ n2_ n3_ n4_ n5_; clear hb hbox hg; have hcz10_0 : w9.cell? ⟨gb303, 0, none⟩ = some (.int .i64 0) := (blk_cell BK303.out 0).trans rfl; have hcz10_1 : w9.cell? ⟨gb303, 1, none⟩ = some (.int .i64 0) := (blk_cell BK303.out 1).trans rfl; have hcz10_2 : w9.cell? ⟨gb303, 2, none⟩ = some (.slice none 0 0) := (blk_cell BK303.out 2).trans rfl; have hcz10_3 : w9.cell? ⟨gb303, 3, none⟩ = some (.slice none 0 0) := (blk_cell BK303.out 3).trans rfl; have hcz10_4 : w9.cell? ⟨gb303, 4, none⟩ = some (.bool false) := (blk_cell BK303.out 4).trans rfl; have hcz10_5 : w9.cell? ⟨gb303, 5, none⟩ = some (.int .i64 0) := (blk_cell BK303.out 5).trans rfl; have hfz10_0 := blk_frozen BK303.out 0; have hfz10_1 := blk_frozen BK303.out 1; have hfz10_2 := blk_frozen BK303.out 2; have hfz10_3 := blk_frozen BK303.out 3; have hfz10_4 := blk_frozen BK303.out 4; have hfz10_5 := blk_frozen BK303.out 5; obtain ⟨Ao11, co11, eo11⟩ := Kd.R_slice HO296.out; subst eo11; obtain ⟨Ao12, co12, eo12⟩ := Kd.S_slice HO299.out; subst eo12) | ((with_reducible refine gate_store (t := 28) (p := 1) rfl ?_); refine store_event (t := 28) (p := 1) (v := ?vo_w13) (w1 := ((((((w9.setCell ⟨gb303, 0, none⟩ (.int .i64 t292)).setCell ⟨gb303, 1, none⟩ (.int .i64 t293)).setCell ⟨gb303, 2, none⟩ (.slice Ao11 t294.length co11)).setCell ⟨gb303, 3, none⟩ (.slice Ao12 t297.length co12)).setCell ⟨gb303, 4, none⟩ (.bool t300)).setCell ⟨gb303, 5, none⟩ (.int .i64 t301))) ?hg ?ho ?hn ?hr ?_; (case ho => rfl); (case hg => rfl); (case hn => rfl); (case hr => (go_simp; done)); intro w13 hw; have n0_ : Aside0 (Kd.R Kd.string 9 w13 w.heap.size (fun _ => True) (.slice Ao11 t294.length co11) t294) := ⟨(by rw [hw]; exact (by (with_reducible repeat (fail)); exact Kd.R_mono (Kd.R_far (p := ⟨gb303, 5, none⟩) (Kd.R_far (p := ⟨gb303, 4, none⟩) (Kd.R_far (p := ⟨gb303, 3, none⟩) (Kd.R_far (p := ⟨gb303, 2, none⟩) (Kd.R_far (p := ⟨gb303, 1, none⟩) (Kd.R_far (p := ⟨gb303, 0, none⟩) (Kd.R_types HO296.out BK303.out (by decide)) (fun _ hk => hk.2) (.int .i64 t292)) (fun _ hk => hk.2) (.int .i64 t293)) (fun _ hk => hk.2) (.slice Ao11 t294.length co11)) (fun _ hk => hk.2) (.slice Ao12 t297.length co12)) (fun _ hk => hk.2) (.bool t300)) (fun _ hk => hk.2) (.int .i64 t301)) (fun _ hk => trivial)))⟩; have n1_ : Aside0 (Kd.S (Kd.slice 43 k43) 40 w13 w.heap.size (fun _ => True) (.slice Ao12 t297.length co12) t297) := ⟨(by rw [hw]; exact (by (with_reducible repeat (fail)); exact Kd.S_mono (Kd.S_far (p := ⟨gb303, 5, none⟩) (Kd.S_far (p := ⟨gb303, 4, none⟩) (Kd.S_far (p := ⟨gb303, 3, none⟩) (Kd.S_far (p := ⟨gb303, 2, none⟩) (Kd.S_far (p := ⟨gb303, 1, none⟩) (Kd.S_far (p := ⟨gb303, 0, none⟩) (Kd.S_types HO299.out BK303.out (by decide)) (fun _ hk => hk.2) (.int .i64 t292)) (fun _ hk => hk.2) (.int .i64 t293)) (fun _ hk => hk.2) (.slice Ao11 t294.length co11)) (fun _ hk => hk.2) (.slice Ao12 t297.length co12)) (fun _ hk => hk.2) (.bool t300)) (fun _ hk => hk.2) (.int .i64 t301)) (fun _ hk => trivial)))⟩; have n2_ : Aside0 (w13.heap[gb303]? = some (.cells #[.int .i64 t292, .int .i64 t293, .slice Ao11 t294.length co11, .slice Ao12 t297.length co12, .bool t300, .int .i64 t301] 28 (0, 0))) := ⟨(by rw [hw]; exact (by (with_reducible repeat (fail)); refine blk_put (cs := #[.int .i64 t292, .int .i64 t293, .slice Ao11 t294.length co11, .slice Ao12 t297.length co12, .bool t300, .int .i64 0]) ?_ 5 _ rfl; (with_reducible repeat (fail)); refine blk_put (cs := #[.int .i64 t292, .int .i64 t293, .slice Ao11 t294.length co11, .slice Ao12 t297.length co12, .bool false, .int .i64 0]) ?_ 4 _ rfl; (with_reducible repeat (fail)); refine blk_put (cs := #[.int .i64 t292, .int .i64 t293, .slice Ao11 t294.length co11, .slice none 0 0, .bool false, .int .i64 0]) ?_ 3 _ rfl; (with_reducible repeat (fail)); refine blk_put (cs := #[.int .i64 t292, .int .i64 t293, .slice none 0 0, .slice none 0 0, .bool false, .int .i64 0]) ?_ 2 _ rfl; (with_reducible repeat (fail)); refine blk_put (cs := #[.int .i64 t292, .int .i64 0, .slice none 0 0, .slice none 0 0, .bool false, .int .i64 0]) ?_ 1 _ rfl; (with_reducible repeat (fail)); refine blk_put (cs := #[.int .i64 0, .int .i64 0, .slice none 0 0, .slice none 0 0, .bool false, .int .i64 0]) ?_ 0 _ rfl; (with_reducible repeat (fail)); exact BK303.out))⟩; have n3_ : Aside0 (Below w.heap.size w w13) := ⟨(by rw [hw]; exact (by repeat ((with_reducible first | exact HB.out | refine below_set ?_ GE303.out))))⟩; clear hw; clear HO296; clear HO299; clear BK303; clear HB; have HO296 := n0_; have HO299 := n1_; have BK303 := n2_; have HB := n3_; clear n0_ n1_ n2_ n3_; have hcz14_0 : w13.cell? ⟨gb303, 0, none⟩ = some (.int .i64 t292) := (blk_cell BK303.out 0).trans rfl; have hcz14_1 : w13.cell? ⟨gb303, 1, none⟩ = some (.int .i64 t293) := (blk_cell BK303.out 1).trans rfl; have hcz14_2 : w13.cell? ⟨gb303, 2, none⟩ = some (.slice Ao11 t294.length co11) := (blk_cell BK303.out 2).trans rfl; have hcz14_3 : w13.cell? ⟨gb303, 3, none⟩ = some (.slice Ao12 t297.length co12) := (blk_cell BK303.out 3).trans rfl; have hcz14_4 : w13.cell? ⟨gb303, 4, none⟩ = some (.bool t300) := (blk_cell BK303.out 4).trans rfl; have hcz14_5 : w13.cell? ⟨gb303, 5, none⟩ = some (.int .i64 t301) := (blk_cell BK303.out 5).trans rfl; have hfz14_0 := blk_frozen BK303.out 0; have hfz14_1 := blk_frozen BK303.out 1; have hfz14_2 := blk_frozen BK303.out 2; have hfz14_3 := blk_frozen BK303.out 3; have hfz14_4 := blk_frozen BK303.out 4; have hfz14_5 := blk_frozen BK303.out 5; have p304 : 0 ≤ (0 : Int) := (by omega); have q304 : 0 < (t297.length : Int) := of_decide_eq_true (by (with_reducible assumption)); obtain ⟨ad304, A304_0, c304_0, e304, hx304_0, hl304_0, hi304_0⟩ := at_L3 (Kd.S_reads' HO299.out).2.2 0 p304 q304; cases e304; obtain ⟨ce304, hce304, hMe304, hcc304⟩ := Kd.S_get HO299.out [] 0 p304 (by exact q304); obtain ⟨ve304_0, rfl, ge304_0⟩ := hMe304; have hv304_0 := hcc304 0 _ rfl; rw [Nat.add_zero, show ((Kd.slice 43 k43)).sz = 1 from rfl, Nat.mul_one] at hv304_0; replace hv304_0 := Option.some.inj (hv304_0.symm.trans hx304_0); rw [hv304_0] at ge304_0; have HL304_0 := Aside0.mk (show Kd.R k43 43 _ _ _ _ (rd_L3 t297 0) from ge304_0); clear hv304_0 ge304_0; clear hcc304 hce304; have qi304 : (0 < t297.length) = True := eq_true (by omega); (try rw [show ((0 : Int)).toNat = 0 from rfl] at hx304_0); (try rw [Addr.add_zero'] at hx304_0); have HR304_0 := Aside0.mk hi304_0; have HC304_0 := Aside0.mk hl304_0; clear hi304_0 hl304_0; replace p304 := eq_true p304; replace q304 := eq_true q304; have p305 : 0 ≤ (0 : Int) := (by omega); have q305 : 0 < (t297.length : Int) := of_decide_eq_true (by (with_reducible assumption)); obtain ⟨ad305, A305_0, c305_0, e305, hx305_0, hl305_0, hi305_0⟩ := at_L3 (Kd.S_reads' HO299.out).2.2 0 p305 q305; obtain rfl : ad304 = ad305 := (by injection e305); obtain ⟨ce305, hce305, hMe305, hcc305⟩ := Kd.S_get HO299.out [] 0 p305 (by exact q305); obtain ⟨ve305_0, rfl, ge305_0⟩ := hMe305; have hv305_0 := hcc305 0 _ rfl; rw [Nat.add_zero, show ((Kd.slice 43 k43)).sz = 1 from rfl, Nat.mul_one] at hv305_0; replace hv305_0 := Option.some.inj (hv305_0.symm.trans hx305_0); rw [hv305_0] at ge305_0; have HL305_0 := Aside0.mk (show Kd.R k43 43 _ _ _ _ (rd_L3 t297 0) from ge305_0); clear hv305_0 ge305_0; clear hcc305 hce305; have qi305 : (0 < t297.length) = True := eq_true (by omega); (try rw [show ((0 : Int)).toNat = 0 from rfl] at hx305_0); (try rw [Addr.add_zero'] at hx305_0); have HR305_0 := Aside0.mk hi305_0; have HC305_0 := Aside0.mk hl305_0; clear hi305_0 hl305_0; replace p305 := eq_true p305; replace q305 := eq_true q305; have ea_ := Option.some.inj (hx304_0.symm.trans hx305_0); injection ea_ with ea_ en_ ec_; subst ea_; subst ec_; clear en_; have p306 : 0 ≤ (0 : Int) := (by omega); have q306 : 0 < ((rd_L3 t297 0).length : Int) := of_decide_eq_true (by (with_reducible assumption)); obtain ⟨ad306, e306, hx306_0, hx306_1, hx306_2, hx306_3⟩ := at_T43 (by repeat ((with_reducible exact HR305_0.out))) 0 p306 q306; cases e306; have qi306 : (0 < (rd_L3 t297 0).length) = True := eq_true (by omega); (try rw [show ((0 : Int)).toNat = 0 from rfl] at hx306_0); (try rw [show 0 * 4 = 0 from rfl] at hx306_0); (try rw [Addr.add_zero'] at hx306_0); (try rw [show ((0 : Int)).toNat = 0 from rfl] at hx306_1); (try rw [show 0 * 4 = 0 from rfl] at hx306_1); (try rw [Addr.add_zero'] at hx306_1); (try rw [show ((0 : Int)).toNat = 0 from rfl] at hx306_2); (try rw [show 0 * 4 = 0 from rfl] at hx306_2); (try rw [Addr.add_zero'] at hx306_2); (try rw [show ((0 : Int)).toNat = 0 from rfl] at hx306_3); (try rw [show 0 * 4 = 0 from rfl] at hx306_3); (try rw [Addr.add_zero'] at hx306_3); replace p306 := eq_true p306; replace q306 := eq_true q306))
              go_ret
              exact ⟨by rfl, by repeat ((with_reducible exact HB.out))⟩
            rw [if_neg c7] at H
            exact absurd H (by simp)
          rw [if_neg c6] at H
          have c6b0 : (((rd_L3 t297 0).length : Int) == 2) = false := beq_eq_false_iff_ne.mpr c6
          have c6b1 : (((rd_L3 t297 0).length : Int) != 2) = true := bne_iff_ne.mpr c6
          obtain rfl := Option.some.inj H
          go_enter Tryz.func8, Tryz.ntmps8
          go_wp2_with (first | ((with_reducible refine gate_callee (f := 14) rfl ?_); refine goesL_ (some 4) rfl rfl Tryz.func14 (by kernel_rfl) rfl #[.string (⟨#[55, 10, 114, 111, 119, 115, 10, 63, 120, 9, 63, 121, 10, 60, 97, 62, 9, 10]⟩ : ByteArray)] rfl (by (try simp only [List.map_toArray, List.map_cons, List.map_nil]); rfl) ?_; (with_reducible refine (result_Get.calls k (⟨#[55, 10, 114, 111, 119, 115, 10, 63, 120, 9, 63, 121, 10, 60, 97, 62, 9, 10]⟩ : ByteArray) t292 t293 t294 t297 t300 t301 t302 _ (Gl.below HGL.out (by repeat ((with_reducible exact HB.out)))) A1.out).mono ?_); rintro e w15 ⟨v295, v298, rfl, ho0, ho1, hb⟩; refine ⟨_, rfl, ?_⟩; have n0_ := Aside0.mk (Kd.R_lower ho0 (below_size (by repeat ((with_reducible exact HB.out))))); have n1_ := Aside0.mk (Kd.S_lower ho1 (below_size (by repeat ((with_reducible exact HB.out))))); have n2_ := Aside0.mk (below_step (by repeat ((with_reducible exact HB.out))) hb); clear HB; have HO296 := n0_; have HO299 := n1_; have HB := n2_; clear n0_ n1_ n2_; (try clear hb); (try clear ho0); (try clear ho1)) | ((with_reducible refine gate_dst (N := 1) rfl ?_); (try (refine gate_guard (by rfl) ?_; dsimp only)); refine box_event ?hg (N := 1) ?hd (cs := #[.int .i64 0, .int .i64 0, .slice none 0 0, .slice none 0 0, .bool false, .int .i64 0]) (t := 28) ?hr ?_; (case hd => rfl); (case hg => rfl); (case hr => (go_simp; done)); intro gb303 hg w16 hbox hb; have n0_ := Aside0.mk (Kd.R_below (by (with_reducible repeat (fail)); exact HO296.out) hb); have n1_ := Aside0.mk (Kd.S_below (by (with_reducible repeat (fail)); exact HO299.out) hb); have n2_ := Aside0.mk (below_step (by repeat ((with_reducible exact HB.out))) hb); have n3_ := Aside0.mk (hbox); have n4_ := Aside0.mk ((by rw [hg]; exact (below_size (by repeat ((with_reducible exact HB.out)))) : w.heap.size ≤ gb303)); have n5_ := Aside0.mk ((by rw [hg]; exact (below_size (by repeat ((with_reducible exact HB.out)))) : w.heap.size ≤ gb303)); clear HO296; clear HO299; clear HB; have HO296 := n0_; have HO299 := n1_; have HB := n2_; have BK303 := n3_; have GW303 := n4_; have GE303 := n5_; clear n0_ n1_ n2_ n3_ n4_ n5_; clear hb hbox hg; have hcz17_0 : w16.cell? ⟨gb303, 0, none⟩ = some (.int .i64 0) := (blk_cell BK303.out 0).trans rfl; have hcz17_1 : w16.cell? ⟨gb303, 1, none⟩ = some (.int .i64 0) := (blk_cell BK303.out 1).trans rfl; have hcz17_2 : w16.cell? ⟨gb303, 2, none⟩ = some (.slice none 0 0) := (blk_cell BK303.out 2).trans rfl; have hcz17_3 : w16.cell? ⟨gb303, 3, none⟩ = some (.slice none 0 0) := (blk_cell BK303.out 3).trans rfl; have hcz17_4 : w16.cell? ⟨gb303, 4, none⟩ = some (.bool false) := (blk_cell BK303.out 4).trans rfl; have hcz17_5 : w16.cell? ⟨gb303, 5, none⟩ = some (.int .i64 0) := (blk_cell BK303.out 5).trans rfl; have hfz17_0 := blk_frozen BK303.out 0; have hfz17_1 := blk_frozen BK303.out 1; have hfz17_2 := blk_frozen BK303.out 2; have hfz17_3 := blk_frozen BK303.out 3; have hfz17_4 := blk_frozen BK303.out 4; have hfz17_5 := blk_frozen BK303.out 5; obtain ⟨Ao18, co18, eo18⟩ := Kd.R_slice HO296.out; subst eo18; obtain ⟨Ao19, co19, eo19⟩ := Kd.S_slice HO299.out; subst eo19) | ((with_reducible refine gate_store (t := 28) (p := 1) rfl ?_); refine store_event (t := 28) (p := 1) (v := ?vo_w20) (w1 := ((((((w16.setCell ⟨gb303, 0, none⟩ (.int .i64 t292)).setCell ⟨gb303, 1, none⟩ (.int .i64 t293)).setCell ⟨gb303, 2, none⟩ (.slice Ao18 t294.length co18)).setCell ⟨gb303, 3, none⟩ (.slice Ao19 t297.length co19)).setCell ⟨gb303, 4, none⟩ (.bool t300)).setCell ⟨gb303, 5, none⟩ (.int .i64 t301))) ?hg ?ho ?hn ?hr ?_; (case ho => rfl); (case hg => rfl); (case hn => rfl); (case hr => (go_simp; done)); intro w20 hw; have n0_ : Aside0 (Kd.R Kd.string 9 w20 w.heap.size (fun _ => True) (.slice Ao18 t294.length co18) t294) := ⟨(by rw [hw]; exact (by (with_reducible repeat (fail)); exact Kd.R_mono (Kd.R_far (p := ⟨gb303, 5, none⟩) (Kd.R_far (p := ⟨gb303, 4, none⟩) (Kd.R_far (p := ⟨gb303, 3, none⟩) (Kd.R_far (p := ⟨gb303, 2, none⟩) (Kd.R_far (p := ⟨gb303, 1, none⟩) (Kd.R_far (p := ⟨gb303, 0, none⟩) (Kd.R_types HO296.out BK303.out (by decide)) (fun _ hk => hk.2) (.int .i64 t292)) (fun _ hk => hk.2) (.int .i64 t293)) (fun _ hk => hk.2) (.slice Ao18 t294.length co18)) (fun _ hk => hk.2) (.slice Ao19 t297.length co19)) (fun _ hk => hk.2) (.bool t300)) (fun _ hk => hk.2) (.int .i64 t301)) (fun _ hk => trivial)))⟩; have n1_ : Aside0 (Kd.S (Kd.slice 43 k43) 40 w20 w.heap.size (fun _ => True) (.slice Ao19 t297.length co19) t297) := ⟨(by rw [hw]; exact (by (with_reducible repeat (fail)); exact Kd.S_mono (Kd.S_far (p := ⟨gb303, 5, none⟩) (Kd.S_far (p := ⟨gb303, 4, none⟩) (Kd.S_far (p := ⟨gb303, 3, none⟩) (Kd.S_far (p := ⟨gb303, 2, none⟩) (Kd.S_far (p := ⟨gb303, 1, none⟩) (Kd.S_far (p := ⟨gb303, 0, none⟩) (Kd.S_types HO299.out BK303.out (by decide)) (fun _ hk => hk.2) (.int .i64 t292)) (fun _ hk => hk.2) (.int .i64 t293)) (fun _ hk => hk.2) (.slice Ao18 t294.length co18)) (fun _ hk => hk.2) (.slice Ao19 t297.length co19)) (fun _ hk => hk.2) (.bool t300)) (fun _ hk => hk.2) (.int .i64 t301)) (fun _ hk => trivial)))⟩; have n2_ : Aside0 (w20.heap[gb303]? = some (.cells #[.int .i64 t292, .int .i64 t293, .slice Ao18 t294.length co18, .slice Ao19 t297.length co19, .bool t300, .int .i64 t301] 28 (0, 0))) := ⟨(by rw [hw]; exact (by (with_reducible repeat (fail)); refine blk_put (cs := #[.int .i64 t292, .int .i64 t293, .slice Ao18 t294.length co18, .slice Ao19 t297.length co19, .bool t300, .int .i64 0]) ?_ 5 _ rfl; (with_reducible repeat (fail)); refine blk_put (cs := #[.int .i64 t292, .int .i64 t293, .slice Ao18 t294.length co18, .slice Ao19 t297.length co19, .bool false, .int .i64 0]) ?_ 4 _ rfl; (with_reducible repeat (fail)); refine blk_put (cs := #[.int .i64 t292, .int .i64 t293, .slice Ao18 t294.length co18, .slice none 0 0, .bool false, .int .i64 0]) ?_ 3 _ rfl; (with_reducible repeat (fail)); refine blk_put (cs := #[.int .i64 t292, .int .i64 t293, .slice none 0 0, .slice none 0 0, .bool false, .int .i64 0]) ?_ 2 _ rfl; (with_reducible repeat (fail)); refine blk_put (cs := #[.int .i64 t292, .int .i64 0, .slice none 0 0, .slice none 0 0, .bool false, .int .i64 0]) ?_ 1 _ rfl; (with_reducible repeat (fail)); refine blk_put (cs := #[.int .i64 0, .int .i64 0, .slice none 0 0, .slice none 0 0, .bool false, .int .i64 0]) ?_ 0 _ rfl; (with_reducible repeat (fail)); exact BK303.out))⟩; have n3_ : Aside0 (Below w.heap.size w w20) := ⟨(by rw [hw]; exact (by repeat ((with_reducible first | exact HB.out | refine below_set ?_ GE303.out))))⟩; clear hw; clear HO296; clear HO299; clear BK303; clear HB; have HO296 := n0_; have HO299 := n1_; have BK303 := n2_; have HB := n3_; clear n0_ n1_ n2_ n3_; have hcz21_0 : w20.cell? ⟨gb303, 0, none⟩ = some (.int .i64 t292) := (blk_cell BK303.out 0).trans rfl; have hcz21_1 : w20.cell? ⟨gb303, 1, none⟩ = some (.int .i64 t293) := (blk_cell BK303.out 1).trans rfl; have hcz21_2 : w20.cell? ⟨gb303, 2, none⟩ = some (.slice Ao18 t294.length co18) := (blk_cell BK303.out 2).trans rfl; have hcz21_3 : w20.cell? ⟨gb303, 3, none⟩ = some (.slice Ao19 t297.length co19) := (blk_cell BK303.out 3).trans rfl; have hcz21_4 : w20.cell? ⟨gb303, 4, none⟩ = some (.bool t300) := (blk_cell BK303.out 4).trans rfl; have hcz21_5 : w20.cell? ⟨gb303, 5, none⟩ = some (.int .i64 t301) := (blk_cell BK303.out 5).trans rfl; have hfz21_0 := blk_frozen BK303.out 0; have hfz21_1 := blk_frozen BK303.out 1; have hfz21_2 := blk_frozen BK303.out 2; have hfz21_3 := blk_frozen BK303.out 3; have hfz21_4 := blk_frozen BK303.out 4; have hfz21_5 := blk_frozen BK303.out 5; have p304 : 0 ≤ (0 : Int) := (by omega); have q304 : 0 < (t297.length : Int) := of_decide_eq_true (by (with_reducible assumption)); obtain ⟨ad304, A304_0, c304_0, e304, hx304_0, hl304_0, hi304_0⟩ := at_L3 (Kd.S_reads' HO299.out).2.2 0 p304 q304; cases e304; obtain ⟨ce304, hce304, hMe304, hcc304⟩ := Kd.S_get HO299.out [] 0 p304 (by exact q304); obtain ⟨ve304_0, rfl, ge304_0⟩ := hMe304; have hv304_0 := hcc304 0 _ rfl; rw [Nat.add_zero, show ((Kd.slice 43 k43)).sz = 1 from rfl, Nat.mul_one] at hv304_0; replace hv304_0 := Option.some.inj (hv304_0.symm.trans hx304_0); rw [hv304_0] at ge304_0; have HL304_0 := Aside0.mk (show Kd.R k43 43 _ _ _ _ (rd_L3 t297 0) from ge304_0); clear hv304_0 ge304_0; clear hcc304 hce304; have qi304 : (0 < t297.length) = True := eq_true (by omega); (try rw [show ((0 : Int)).toNat = 0 from rfl] at hx304_0); (try rw [Addr.add_zero'] at hx304_0); have HR304_0 := Aside0.mk hi304_0; have HC304_0 := Aside0.mk hl304_0; clear hi304_0 hl304_0; replace p304 := eq_true p304; replace q304 := eq_true q304))
          go_ret
          exact ⟨by rfl, by repeat ((with_reducible exact HB.out))⟩
        rw [if_neg c5] at H
        exact absurd H (by simp)
      rw [if_neg c4] at H
      have c4b0 : ((t297.length : Int) == 1) = false := beq_eq_false_iff_ne.mpr c4
      have c4b1 : ((t297.length : Int) != 1) = true := bne_iff_ne.mpr c4
      obtain rfl := Option.some.inj H
      go_enter Tryz.func8, Tryz.ntmps8
      go_wp2_with (first | ((with_reducible refine gate_callee (f := 14) rfl ?_); refine goesL_ (some 4) rfl rfl Tryz.func14 (by kernel_rfl) rfl #[.string (⟨#[55, 10, 114, 111, 119, 115, 10, 63, 120, 9, 63, 121, 10, 60, 97, 62, 9, 10]⟩ : ByteArray)] rfl (by (try simp only [List.map_toArray, List.map_cons, List.map_nil]); rfl) ?_; (with_reducible refine (result_Get.calls k (⟨#[55, 10, 114, 111, 119, 115, 10, 63, 120, 9, 63, 121, 10, 60, 97, 62, 9, 10]⟩ : ByteArray) t292 t293 t294 t297 t300 t301 t302 _ (Gl.below HGL.out (by repeat ((with_reducible exact HB.out)))) A1.out).mono ?_); rintro e w22 ⟨v295, v298, rfl, ho0, ho1, hb⟩; refine ⟨_, rfl, ?_⟩; have n0_ := Aside0.mk (Kd.R_lower ho0 (below_size (by repeat ((with_reducible exact HB.out))))); have n1_ := Aside0.mk (Kd.S_lower ho1 (below_size (by repeat ((with_reducible exact HB.out))))); have n2_ := Aside0.mk (below_step (by repeat ((with_reducible exact HB.out))) hb); clear HB; have HO296 := n0_; have HO299 := n1_; have HB := n2_; clear n0_ n1_ n2_; (try clear hb); (try clear ho0); (try clear ho1)) | ((with_reducible refine gate_dst (N := 1) rfl ?_); (try (refine gate_guard (by rfl) ?_; dsimp only)); refine box_event ?hg (N := 1) ?hd (cs := #[.int .i64 0, .int .i64 0, .slice none 0 0, .slice none 0 0, .bool false, .int .i64 0]) (t := 28) ?hr ?_; (case hd => rfl); (case hg => rfl); (case hr => (go_simp; done)); intro gb303 hg w23 hbox hb; have n0_ := Aside0.mk (Kd.R_below (by (with_reducible repeat (fail)); exact HO296.out) hb); have n1_ := Aside0.mk (Kd.S_below (by (with_reducible repeat (fail)); exact HO299.out) hb); have n2_ := Aside0.mk (below_step (by repeat ((with_reducible exact HB.out))) hb); have n3_ := Aside0.mk (hbox); have n4_ := Aside0.mk ((by rw [hg]; exact (below_size (by repeat ((with_reducible exact HB.out)))) : w.heap.size ≤ gb303)); have n5_ := Aside0.mk ((by rw [hg]; exact (below_size (by repeat ((with_reducible exact HB.out)))) : w.heap.size ≤ gb303)); clear HO296; clear HO299; clear HB; have HO296 := n0_; have HO299 := n1_; have HB := n2_; have BK303 := n3_; have GW303 := n4_; have GE303 := n5_; clear n0_ n1_ n2_ n3_ n4_ n5_; clear hb hbox hg; have hcz24_0 : w23.cell? ⟨gb303, 0, none⟩ = some (.int .i64 0) := (blk_cell BK303.out 0).trans rfl; have hcz24_1 : w23.cell? ⟨gb303, 1, none⟩ = some (.int .i64 0) := (blk_cell BK303.out 1).trans rfl; have hcz24_2 : w23.cell? ⟨gb303, 2, none⟩ = some (.slice none 0 0) := (blk_cell BK303.out 2).trans rfl; have hcz24_3 : w23.cell? ⟨gb303, 3, none⟩ = some (.slice none 0 0) := (blk_cell BK303.out 3).trans rfl; have hcz24_4 : w23.cell? ⟨gb303, 4, none⟩ = some (.bool false) := (blk_cell BK303.out 4).trans rfl; have hcz24_5 : w23.cell? ⟨gb303, 5, none⟩ = some (.int .i64 0) := (blk_cell BK303.out 5).trans rfl; have hfz24_0 := blk_frozen BK303.out 0; have hfz24_1 := blk_frozen BK303.out 1; have hfz24_2 := blk_frozen BK303.out 2; have hfz24_3 := blk_frozen BK303.out 3; have hfz24_4 := blk_frozen BK303.out 4; have hfz24_5 := blk_frozen BK303.out 5; obtain ⟨Ao25, co25, eo25⟩ := Kd.R_slice HO296.out; subst eo25; obtain ⟨Ao26, co26, eo26⟩ := Kd.S_slice HO299.out; subst eo26))
      go_ret
      exact ⟨by rfl, by repeat ((with_reducible first | exact HB.out | refine below_set ?_ GE303.out))⟩
    rw [if_neg c3] at H
    have c3b0 : (t292 == 7) = false := beq_eq_false_iff_ne.mpr c3
    have c3b1 : (t292 != 7) = true := bne_iff_ne.mpr c3
    obtain rfl := Option.some.inj H
    go_enter Tryz.func8, Tryz.ntmps8
    go_wp2_with (first | ((with_reducible refine gate_callee (f := 14) rfl ?_); refine goesL_ (some 4) rfl rfl Tryz.func14 (by kernel_rfl) rfl #[.string (⟨#[55, 10, 114, 111, 119, 115, 10, 63, 120, 9, 63, 121, 10, 60, 97, 62, 9, 10]⟩ : ByteArray)] rfl (by (try simp only [List.map_toArray, List.map_cons, List.map_nil]); rfl) ?_; (with_reducible refine (result_Get.calls k (⟨#[55, 10, 114, 111, 119, 115, 10, 63, 120, 9, 63, 121, 10, 60, 97, 62, 9, 10]⟩ : ByteArray) t292 t293 t294 t297 t300 t301 t302 _ (Gl.below HGL.out (by repeat ((with_reducible exact HB.out)))) A1.out).mono ?_); rintro e w27 ⟨v295, v298, rfl, ho0, ho1, hb⟩; refine ⟨_, rfl, ?_⟩; have n0_ := Aside0.mk (Kd.R_lower ho0 (below_size (by repeat ((with_reducible exact HB.out))))); have n1_ := Aside0.mk (Kd.S_lower ho1 (below_size (by repeat ((with_reducible exact HB.out))))); have n2_ := Aside0.mk (below_step (by repeat ((with_reducible exact HB.out))) hb); clear HB; have HO296 := n0_; have HO299 := n1_; have HB := n2_; clear n0_ n1_ n2_; (try clear hb); (try clear ho0); (try clear ho1)) | ((with_reducible refine gate_dst (N := 1) rfl ?_); (try (refine gate_guard (by rfl) ?_; dsimp only)); refine box_event ?hg (N := 1) ?hd (cs := #[.int .i64 0, .int .i64 0, .slice none 0 0, .slice none 0 0, .bool false, .int .i64 0]) (t := 28) ?hr ?_; (case hd => rfl); (case hg => rfl); (case hr => (go_simp; done)); intro gb303 hg w28 hbox hb; have n0_ := Aside0.mk (Kd.R_below (by (with_reducible repeat (fail)); exact HO296.out) hb); have n1_ := Aside0.mk (Kd.S_below (by (with_reducible repeat (fail)); exact HO299.out) hb); have n2_ := Aside0.mk (below_step (by repeat ((with_reducible exact HB.out))) hb); have n3_ := Aside0.mk (hbox); have n4_ := Aside0.mk ((by rw [hg]; exact (below_size (by repeat ((with_reducible exact HB.out)))) : w.heap.size ≤ gb303)); have n5_ := Aside0.mk ((by rw [hg]; exact (below_size (by repeat ((with_reducible exact HB.out)))) : w.heap.size ≤ gb303)); clear HO296; clear HO299; clear HB; have HO296 := n0_; have HO299 := n1_; have HB := n2_; have BK303 := n3_; have GW303 := n4_; have GE303 := n5_; clear n0_ n1_ n2_ n3_ n4_ n5_; clear hb hbox hg; have hcz29_0 : w28.cell? ⟨gb303, 0, none⟩ = some (.int .i64 0) := (blk_cell BK303.out 0).trans rfl; have hcz29_1 : w28.cell? ⟨gb303, 1, none⟩ = some (.int .i64 0) := (blk_cell BK303.out 1).trans rfl; have hcz29_2 : w28.cell? ⟨gb303, 2, none⟩ = some (.slice none 0 0) := (blk_cell BK303.out 2).trans rfl; have hcz29_3 : w28.cell? ⟨gb303, 3, none⟩ = some (.slice none 0 0) := (blk_cell BK303.out 3).trans rfl; have hcz29_4 : w28.cell? ⟨gb303, 4, none⟩ = some (.bool false) := (blk_cell BK303.out 4).trans rfl; have hcz29_5 : w28.cell? ⟨gb303, 5, none⟩ = some (.int .i64 0) := (blk_cell BK303.out 5).trans rfl; have hfz29_0 := blk_frozen BK303.out 0; have hfz29_1 := blk_frozen BK303.out 1; have hfz29_2 := blk_frozen BK303.out 2; have hfz29_3 := blk_frozen BK303.out 3; have hfz29_4 := blk_frozen BK303.out 4; have hfz29_5 := blk_frozen BK303.out 5; obtain ⟨Ao30, co30, eo30⟩ := Kd.R_slice HO296.out; subst eo30; obtain ⟨Ao31, co31, eo31⟩ := Kd.S_slice HO299.out; subst eo31))
    go_ret
    exact ⟨by rfl, by repeat ((with_reducible first | exact HB.out | refine below_set ?_ GE303.out))⟩
  rw [if_neg c2] at H
  have c2b0 : (t302 == 0) = false := beq_eq_false_iff_ne.mpr c2
  have c2b1 : (t302 != 0) = true := bne_iff_ne.mpr c2
  obtain rfl := Option.some.inj H
  go_enter Tryz.func8, Tryz.ntmps8
  go_wp2_with (first | ((with_reducible refine gate_callee (f := 14) rfl ?_); refine goesL_ (some 4) rfl rfl Tryz.func14 (by kernel_rfl) rfl #[.string (⟨#[55, 10, 114, 111, 119, 115, 10, 63, 120, 9, 63, 121, 10, 60, 97, 62, 9, 10]⟩ : ByteArray)] rfl (by (try simp only [List.map_toArray, List.map_cons, List.map_nil]); rfl) ?_; (with_reducible refine (result_Get.calls k (⟨#[55, 10, 114, 111, 119, 115, 10, 63, 120, 9, 63, 121, 10, 60, 97, 62, 9, 10]⟩ : ByteArray) t292 t293 t294 t297 t300 t301 t302 _ (Gl.below HGL.out (by repeat ((with_reducible exact HB.out)))) A1.out).mono ?_); rintro e w32 ⟨v295, v298, rfl, ho0, ho1, hb⟩; refine ⟨_, rfl, ?_⟩; have n0_ := Aside0.mk (Kd.R_lower ho0 (below_size (by repeat ((with_reducible exact HB.out))))); have n1_ := Aside0.mk (Kd.S_lower ho1 (below_size (by repeat ((with_reducible exact HB.out))))); have n2_ := Aside0.mk (below_step (by repeat ((with_reducible exact HB.out))) hb); clear HB; have HO296 := n0_; have HO299 := n1_; have HB := n2_; clear n0_ n1_ n2_; (try clear hb); (try clear ho0); (try clear ho1)) | ((with_reducible refine gate_dst (N := 1) rfl ?_); (try (refine gate_guard (by rfl) ?_; dsimp only)); refine box_event ?hg (N := 1) ?hd (cs := #[.int .i64 0, .int .i64 0, .slice none 0 0, .slice none 0 0, .bool false, .int .i64 0]) (t := 28) ?hr ?_; (case hd => rfl); (case hg => rfl); (case hr => (go_simp; done)); intro gb303 hg w33 hbox hb; have n0_ := Aside0.mk (Kd.R_below (by (with_reducible repeat (fail)); exact HO296.out) hb); have n1_ := Aside0.mk (Kd.S_below (by (with_reducible repeat (fail)); exact HO299.out) hb); have n2_ := Aside0.mk (below_step (by repeat ((with_reducible exact HB.out))) hb); have n3_ := Aside0.mk (hbox); have n4_ := Aside0.mk ((by rw [hg]; exact (below_size (by repeat ((with_reducible exact HB.out)))) : w.heap.size ≤ gb303)); have n5_ := Aside0.mk ((by rw [hg]; exact (below_size (by repeat ((with_reducible exact HB.out)))) : w.heap.size ≤ gb303)); clear HO296; clear HO299; clear HB; have HO296 := n0_; have HO299 := n1_; have HB := n2_; have BK303 := n3_; have GW303 := n4_; have GE303 := n5_; clear n0_ n1_ n2_ n3_ n4_ n5_; clear hb hbox hg; have hcz34_0 : w33.cell? ⟨gb303, 0, none⟩ = some (.int .i64 0) := (blk_cell BK303.out 0).trans rfl; have hcz34_1 : w33.cell? ⟨gb303, 1, none⟩ = some (.int .i64 0) := (blk_cell BK303.out 1).trans rfl; have hcz34_2 : w33.cell? ⟨gb303, 2, none⟩ = some (.slice none 0 0) := (blk_cell BK303.out 2).trans rfl; have hcz34_3 : w33.cell? ⟨gb303, 3, none⟩ = some (.slice none 0 0) := (blk_cell BK303.out 3).trans rfl; have hcz34_4 : w33.cell? ⟨gb303, 4, none⟩ = some (.bool false) := (blk_cell BK303.out 4).trans rfl; have hcz34_5 : w33.cell? ⟨gb303, 5, none⟩ = some (.int .i64 0) := (blk_cell BK303.out 5).trans rfl; have hfz34_0 := blk_frozen BK303.out 0; have hfz34_1 := blk_frozen BK303.out 1; have hfz34_2 := blk_frozen BK303.out 2; have hfz34_3 := blk_frozen BK303.out 3; have hfz34_4 := blk_frozen BK303.out 4; have hfz34_5 := blk_frozen BK303.out 5; obtain ⟨Ao35, co35, eo35⟩ := Kd.R_slice HO296.out; subst eo35; obtain ⟨Ao36, co36, eo36⟩ := Kd.S_slice HO299.out; subst eo36))
  go_ret
  exact ⟨by rfl, by repeat ((with_reducible first | exact HB.out | refine below_set ?_ GE303.out))⟩
def legationlaw17_ResultChecks.f (k : Nat) (a0_0 : Int) (a0_1 : Int) (l0_2 : List ByteArray) (l0_3 : List (List (S43))) (a0_4 : Bool) (a0_5 : Int) : Option (Bool) := (result_Check.f k a0_0 a0_1 l0_2 l0_3 a0_4 a0_5).bind fun t308 => ((legationref17_Check.f k a0_0 a0_1 l0_2 l0_3 a0_4 a0_5).bind fun t309 => (if t308 = t309 then ((legationlaw17_awake.f k).bind fun t310 => (some t310)) else (some false)))
def legationlaw17_ResultChecks.T1 : Bool × List (List Nat × List Nat) := (true, [([], []), ([0], [0]), ([], []), ([2, 1], [2]), ([1, 3], [1, 3]), ([4, 3], [4]), ([5, 5], [5]), ([5, 6], [5, 6]), ([7, 6, 0, 1, 2, 3, 4, 5, 6, 7], [7])])
def legationlaw17_ResultChecks.B1 : List Nat := [0, 1, 0, 7, 15, 31, 63, 127, 255]
theorem legationlaw17_ResultChecks.tab1 : rtab .any (opsOf Tryz.f3 1) = legationlaw17_ResultChecks.T1 := by kernel_rfl
theorem legationlaw17_ResultChecks.bits1 : waitsOk legationlaw17_ResultChecks.T1.2 legationlaw17_ResultChecks.B1 = true := by kernel_rfl
set_option maxHeartbeats 8000000 in
set_option maxRecDepth 100000 in
theorem legationlaw17_ResultChecks.calls (k : Nat) (a0_0 : Int) (a0_1 : Int) (A0_2 : Option Addr) (c0_2 : Nat) (l0_2 : List ByteArray) (A0_3 : Option Addr) (c0_3 : Nat) (l0_3 : List (List (S43))) (a0_4 : Bool) (a0_5 : Int) (r : Bool) (w : World) (hr0_2 : Kd.C Kd.string w A0_2 l0_2.length l0_2) (hc0_2 : l0_2.length ≤ c0_2) (hr0_3 : Kd.C (Kd.slice 43 k43) w A0_3 l0_3.length l0_3) (hc0_3 : l0_3.length ≤ c0_3) (hG : Gl w) (h : legationlaw17_ResultChecks.f k a0_0 a0_1 l0_2 l0_3 a0_4 a0_5 = some r) :
    Calls Tryz.prog 3 #[.agg #[.int .i64 a0_0, .int .i64 a0_1, .slice A0_2 l0_2.length c0_2, .slice A0_3 l0_3.length c0_3, .bool a0_4, .int .i64 a0_5]] w fun e w' => e = .returned (.bool r) ∧ Below w.heap.size w w' := by
  have hu28 := Tryz.underlying28
  have HGL := Aside0.mk hG
  clear hG
  have HR0_2 := Aside0.mk hr0_2
  have HC0_2 := Aside0.mk hc0_2
  clear hr0_2 hc0_2
  have HR0_3 := Aside0.mk hr0_3
  have HC0_3 := Aside0.mk hc0_3
  clear hr0_3 hc0_3
  have HB := Aside0.mk (Below.refl w.heap.size w)
  have H : ((result_Check.f k a0_0 a0_1 l0_2 l0_3 a0_4 a0_5).bind fun t308 => ((legationref17_Check.f k a0_0 a0_1 l0_2 l0_3 a0_4 a0_5).bind fun t309 => (if t308 = t309 then ((legationlaw17_awake.f k).bind fun t310 => (some t310)) else (some false)))) = some r := h
  clear h
  replace H := Option.bind_eq_some_iff.mp H
  obtain ⟨t308, A20, H⟩ := H
  replace H : ((legationref17_Check.f k a0_0 a0_1 l0_2 l0_3 a0_4 a0_5).bind fun t309 => (if t308 = t309 then ((legationlaw17_awake.f k).bind fun t310 => (some t310)) else (some false))) = some r := H
  have A2 := Aside0.mk A20
  clear A20
  replace H := Option.bind_eq_some_iff.mp H
  obtain ⟨t309, A30, H⟩ := H
  replace H : (if t308 = t309 then ((legationlaw17_awake.f k).bind fun t310 => (some t310)) else (some false)) = some r := H
  have A3 := Aside0.mk A30
  clear A30
  by_cases c4 : t308 = t309
  · rw [if_pos c4] at H
    have c4b0 : (t308 == t309) = true := beq_iff_eq.mpr c4
    have c4b1 : (t308 != t309) = false := bne_eq_false_iff_eq.mpr c4
    clear c4
    replace H := Option.bind_eq_some_iff.mp H
    obtain ⟨t310, A50, H⟩ := H
    replace H : (some t310) = some r := H
    have A5 := Aside0.mk A50
    clear A50
    obtain rfl := Option.some.inj H
    go_enter Tryz.func3, Tryz.ntmps3
    try go_wp2_with (((with_reducible refine gate_dst (N := 1) rfl ?_); refine box_event ?hg (N := 1) ?hd (cs := #[.int .i64 a0_0, .int .i64 a0_1, .slice A0_2 l0_2.length c0_2, .slice A0_3 l0_3.length c0_3, .bool a0_4, .int .i64 a0_5]) (t := 28) ?hr ?_; (case hd => rfl); (case hg => rfl); (case hr => (go_simp; done)); intro gb307 hg w6 hbox hb; have n0_ := Aside0.mk (below_step (by repeat ((with_reducible exact HB.out))) hb); have n1_ := Aside0.mk (hbox); have n2_ := Aside0.mk ((by rw [hg]; exact (below_size (by repeat ((with_reducible exact HB.out)))) : w.heap.size ≤ gb307)); have n3_ := Aside0.mk ((by rw [hg]; exact (below_size (by repeat ((with_reducible exact HB.out)))) : w.heap.size ≤ gb307)); clear HB; have HB := n0_; have BK307 := n1_; have GW307 := n2_; have GE307 := n3_; clear n0_ n1_ n2_ n3_; clear hb hbox hg))
    have n0_ := Aside0.mk (blk_drew BK307.out)
    have n1_ := Aside0.mk (below_drew1 HB.out)
    clear BK307
    clear HB
    have BK307 := n0_
    have HB := n1_
    clear n0_ n1_
    refine start_ (n := 9) (S := fun w' => w'.cell? ⟨gb307, 0, none⟩ = some (.int .i64 a0_0) ∧ w'.cell? ⟨gb307, 1, none⟩ = some (.int .i64 a0_1) ∧ w'.cell? ⟨gb307, 2, none⟩ = some (.slice A0_2 l0_2.length c0_2) ∧ w'.cell? ⟨gb307, 3, none⟩ = some (.slice A0_3 l0_3.length c0_3) ∧ w'.cell? ⟨gb307, 4, none⟩ = some (.bool a0_4) ∧ w'.cell? ⟨gb307, 5, none⟩ = some (.int .i64 a0_5)) (ds := []) #[false, false, false, false, false, false, false, false, false] (by kernel_rfl) rfl rfl ⟨(blk_cell BK307.out 0).trans rfl, (blk_cell BK307.out 1).trans rfl, (blk_cell BK307.out 2).trans rfl, (blk_cell BK307.out 3).trans rfl, (blk_cell BK307.out 4).trans rfl, (blk_cell BK307.out 5).trans rfl⟩ (fun hHeld => ?_); refine with_tabW legationlaw17_ResultChecks.tab1 legationlaw17_ResultChecks.bits1 (fun HT_ HW_ => ?_)
    generalize w6.drew = w7 at BK307 HB hHeld ⊢
    refine take_ (i := 0) (N := some 3) (v := ?_) (a' := ?_) #[true, false, false, false, false, false, false, false, false] rfl rfl (take_ofW HT_.out HW_.out (by kernel_rfl)) (fun _ _ _ h => h) (Or.inl ⟨by rfl, ?_⟩) hHeld ?_ ?_
    rotate_left
    · rintro w' ⟨s0, s1, s2, s3, s4, s5⟩
      go_simp
      with_reducible rfl
    rotate_left
    · simp only [Act.put, List.setIfInBounds_toArray, List.set_cons_zero, List.set_cons_succ, i64_w, i32_w]
      rfl
    refine take_ (i := 2) (N := some 5) (v := ?_) (a' := ?_) #[true, false, true, false, false, false, false, false, false] rfl rfl (take_ofW HT_.out HW_.out (by kernel_rfl)) (fun _ _ _ h => h) (Or.inl ⟨by rfl, ?_⟩) hHeld ?_ ?_
    rotate_left
    · rintro w' ⟨s0, s1, s2, s3, s4, s5⟩
      go_simp
      with_reducible rfl
    rotate_left
    · simp only [Act.put, List.setIfInBounds_toArray, List.set_cons_zero, List.set_cons_succ, i64_w, i32_w]
      rfl
    refine one_ (i := 1) (N := some 4) #[true, true, true, false, false, false, false, false, false] rfl rfl (one_of HT_.out (by kernel_rfl)) (by decide) (fun K hK => ?_)
    refine goes_ Tryz.func6 (by kernel_rfl) rfl #[.agg #[.int .i64 a0_0, .int .i64 a0_1, .slice A0_2 l0_2.length c0_2, .slice A0_3 l0_3.length c0_3, .bool a0_4, .int .i64 a0_5]] (by rfl) rfl rfl (by (try simp only [List.map_toArray, List.map_cons, List.map_nil]); rfl) ?_
    with_reducible refine (result_Check.calls k a0_0 a0_1 _ _ l0_2 (fun k_ => k_ < w.heap.size) _ _ l0_3 a0_4 a0_5 t308 _ ?side1 ?side2 ?side3 A2.out).mono ?_
    (case side1 => repeat (exact (Kd.C_below HR0_2.out HB.out)))
    (case side2 => exact HC0_2.out)
    (case side3 => exact Kd.V_mk HC0_3.out (Kd.F_below (Kd.C_F (Kd.heap_slice 43 k43_heap) HR0_3.out) (by repeat ((with_reducible exact HB.out)))))
    rintro e w8 ⟨rfl, hb⟩
    refine ⟨_, rfl, ?_⟩
    have n0_ := Aside0.mk (blk_below (g := gb307) (o := .cells #[.int .i64 a0_0, .int .i64 a0_1, .slice A0_2 l0_2.length c0_2, .slice A0_3 l0_3.length c0_3, .bool a0_4, .int .i64 a0_5] 28 (0, 0)) (by (with_reducible repeat (fail)); exact BK307.out) hb)
    have n1_ := Aside0.mk (below_step (by repeat ((with_reducible exact HB.out))) hb)
    clear BK307
    clear HB
    have BK307 := n0_
    have HB := n1_
    clear n0_ n1_
    (try clear hb)
    refine hK.out _ _ ⟨(blk_cell BK307.out 0).trans rfl, (blk_cell BK307.out 1).trans rfl, (blk_cell BK307.out 2).trans rfl, (blk_cell BK307.out 3).trans rfl, (blk_cell BK307.out 4).trans rfl, (blk_cell BK307.out 5).trans rfl⟩ (fun hHeld => ?_)
    clear hK K
    refine norm_ (a' := ?_) ?_ ?_
    rotate_left
    · show Act.put _ (some 4) _ = _
      simp only [Act.put, List.setIfInBounds_toArray, List.set_cons_zero, List.set_cons_succ, i64_w, i32_w]
      rfl
    refine one_ (i := 3) (N := some 6) #[true, true, true, true, false, false, false, false, false] rfl rfl (one_of HT_.out (by kernel_rfl)) (by decide) (fun K hK => ?_)
    refine goes_ Tryz.func7 (by kernel_rfl) rfl #[.agg #[.int .i64 a0_0, .int .i64 a0_1, .slice A0_2 l0_2.length c0_2, .slice A0_3 l0_3.length c0_3, .bool a0_4, .int .i64 a0_5]] (by rfl) rfl rfl (by (try simp only [List.map_toArray, List.map_cons, List.map_nil]); rfl) ?_
    with_reducible refine (legationref17_Check.calls k a0_0 a0_1 _ _ l0_2 _ _ l0_3 a0_4 a0_5 t309 _ ?side1 ?side2 ?side3 ?side4 A3.out).mono ?_
    (case side1 => repeat (exact (Kd.C_below HR0_2.out HB.out)))
    (case side2 => exact HC0_2.out)
    (case side3 => repeat (exact (Kd.C_below HR0_3.out HB.out)))
    (case side4 => exact HC0_3.out)
    rintro e w9 ⟨rfl, hb⟩
    refine ⟨_, rfl, ?_⟩
    have n0_ := Aside0.mk (blk_below (g := gb307) (o := .cells #[.int .i64 a0_0, .int .i64 a0_1, .slice A0_2 l0_2.length c0_2, .slice A0_3 l0_3.length c0_3, .bool a0_4, .int .i64 a0_5] 28 (0, 0)) (by (with_reducible repeat (fail)); exact BK307.out) hb)
    have n1_ := Aside0.mk (below_step (by repeat ((with_reducible exact HB.out))) hb)
    clear BK307
    clear HB
    have BK307 := n0_
    have HB := n1_
    clear n0_ n1_
    (try clear hb)
    refine hK.out _ _ ⟨(blk_cell BK307.out 0).trans rfl, (blk_cell BK307.out 1).trans rfl, (blk_cell BK307.out 2).trans rfl, (blk_cell BK307.out 3).trans rfl, (blk_cell BK307.out 4).trans rfl, (blk_cell BK307.out 5).trans rfl⟩ (fun hHeld => ?_)
    clear hK K
    refine norm_ (a' := ?_) ?_ ?_
    rotate_left
    · show Act.put _ (some 6) _ = _
      simp only [Act.put, List.setIfInBounds_toArray, List.set_cons_zero, List.set_cons_succ, i64_w, i32_w]
      rfl
    refine pure_ (i := 4) (N := some 7) (v := ?_) (a' := ?_) #[true, true, true, true, true, false, false, false, false] rfl rfl (any_of HT_.out (by kernel_rfl)) (fun _ _ _ h => h) (Or.inl ⟨by rfl, ?_⟩) ?_ ?_
    rotate_left
    · intro w'
      go_simp
      with_reducible rfl
    rotate_left
    · simp only [Act.put, List.setIfInBounds_toArray, List.set_cons_zero, List.set_cons_succ, i64_w, i32_w]
      rfl
    refine pure_ (i := 5) (N := some 8) (v := ?_) (a' := ?_) #[true, true, true, true, true, true, false, false, false] rfl rfl (any_of HT_.out (by kernel_rfl)) (fun _ _ _ h => h) (Or.inl ⟨by rfl, ?_⟩) ?_ ?_
    rotate_left
    · intro w'
      go_simp
      with_reducible rfl
    rotate_left
    · simp only [Act.put, List.setIfInBounds_toArray, List.set_cons_zero, List.set_cons_succ, i64_w, i32_w]
      rfl
    refine one_ (i := 6) (N := some 9) #[true, true, true, true, true, true, true, false, false] rfl rfl (one_of HT_.out (by kernel_rfl)) (by decide) (fun K hK => ?_)
    refine goes_ Tryz.func8 (by kernel_rfl) rfl #[] (by rfl) rfl rfl (by (try simp only [List.map_toArray, List.map_cons, List.map_nil]); done) ?_
    with_reducible refine (legationlaw17_awake.calls k  t310 _ (Gl.below HGL.out (by repeat ((with_reducible exact HB.out)))) A5.out).mono ?_
    rintro e w10 ⟨rfl, hb⟩
    refine ⟨_, rfl, ?_⟩
    have n0_ := Aside0.mk (blk_below (g := gb307) (o := .cells #[.int .i64 a0_0, .int .i64 a0_1, .slice A0_2 l0_2.length c0_2, .slice A0_3 l0_3.length c0_3, .bool a0_4, .int .i64 a0_5] 28 (0, 0)) (by (with_reducible repeat (fail)); exact BK307.out) hb)
    have n1_ := Aside0.mk (below_step (by repeat ((with_reducible exact HB.out))) hb)
    clear BK307
    clear HB
    have BK307 := n0_
    have HB := n1_
    clear n0_ n1_
    (try clear hb)
    refine hK.out _ _ ⟨(blk_cell BK307.out 0).trans rfl, (blk_cell BK307.out 1).trans rfl, (blk_cell BK307.out 2).trans rfl, (blk_cell BK307.out 3).trans rfl, (blk_cell BK307.out 4).trans rfl, (blk_cell BK307.out 5).trans rfl⟩ (fun hHeld => ?_)
    clear hK K
    refine norm_ (a' := ?_) ?_ ?_
    rotate_left
    · show Act.put _ (some 9) _ = _
      simp only [Act.put, List.setIfInBounds_toArray, List.set_cons_zero, List.set_cons_succ, i64_w, i32_w]
      rfl
    refine pure_ (i := 7) (N := some 10) (v := ?_) (a' := ?_) #[true, true, true, true, true, true, true, true, false] rfl rfl (any_of HT_.out (by kernel_rfl)) (fun _ _ _ h => h) (Or.inl ⟨by rfl, ?_⟩) ?_ ?_
    rotate_left
    · intro w'
      go_simp
      with_reducible rfl
    rotate_left
    · simp only [Act.put, List.setIfInBounds_toArray, List.set_cons_zero, List.set_cons_succ, i64_w, i32_w]
      rfl
    refine pure_ (i := 8) (N := some 2) (v := ?_) (a' := ?_) #[true, true, true, true, true, true, true, true, true] rfl rfl (any_of HT_.out (by kernel_rfl)) (fun _ _ _ h => h) (Or.inl ⟨by rfl, ?_⟩) ?_ ?_
    rotate_left
    · intro w'
      go_simp
      with_reducible rfl
    rotate_left
    · simp only [Act.put, List.setIfInBounds_toArray, List.set_cons_zero, List.set_cons_succ, i64_w, i32_w]
      rfl
    refine done_ (done_of HT_.out (by kernel_rfl)) ?_
    try go_wp2
    go_ret
    exact ⟨by rfl, by repeat ((with_reducible exact HB.out))⟩
  rw [if_neg c4] at H
  have c4b0 : (t308 == t309) = false := beq_eq_false_iff_ne.mpr c4
  have c4b1 : (t308 != t309) = true := bne_iff_ne.mpr c4
  obtain rfl := Option.some.inj H
  go_enter Tryz.func3, Tryz.ntmps3
  try go_wp2_with (((with_reducible refine gate_dst (N := 1) rfl ?_); refine box_event ?hg (N := 1) ?hd (cs := #[.int .i64 a0_0, .int .i64 a0_1, .slice A0_2 l0_2.length c0_2, .slice A0_3 l0_3.length c0_3, .bool a0_4, .int .i64 a0_5]) (t := 28) ?hr ?_; (case hd => rfl); (case hg => rfl); (case hr => (go_simp; done)); intro gb307 hg w11 hbox hb; have n0_ := Aside0.mk (below_step (by repeat ((with_reducible exact HB.out))) hb); have n1_ := Aside0.mk (hbox); have n2_ := Aside0.mk ((by rw [hg]; exact (below_size (by repeat ((with_reducible exact HB.out)))) : w.heap.size ≤ gb307)); have n3_ := Aside0.mk ((by rw [hg]; exact (below_size (by repeat ((with_reducible exact HB.out)))) : w.heap.size ≤ gb307)); clear HB; have HB := n0_; have BK307 := n1_; have GW307 := n2_; have GE307 := n3_; clear n0_ n1_ n2_ n3_; clear hb hbox hg))
  have n0_ := Aside0.mk (blk_drew BK307.out)
  have n1_ := Aside0.mk (below_drew1 HB.out)
  clear BK307
  clear HB
  have BK307 := n0_
  have HB := n1_
  clear n0_ n1_
  refine start_ (n := 9) (S := fun w' => w'.cell? ⟨gb307, 0, none⟩ = some (.int .i64 a0_0) ∧ w'.cell? ⟨gb307, 1, none⟩ = some (.int .i64 a0_1) ∧ w'.cell? ⟨gb307, 2, none⟩ = some (.slice A0_2 l0_2.length c0_2) ∧ w'.cell? ⟨gb307, 3, none⟩ = some (.slice A0_3 l0_3.length c0_3) ∧ w'.cell? ⟨gb307, 4, none⟩ = some (.bool a0_4) ∧ w'.cell? ⟨gb307, 5, none⟩ = some (.int .i64 a0_5)) (ds := []) #[false, false, false, false, false, false, false, false, false] (by kernel_rfl) rfl rfl ⟨(blk_cell BK307.out 0).trans rfl, (blk_cell BK307.out 1).trans rfl, (blk_cell BK307.out 2).trans rfl, (blk_cell BK307.out 3).trans rfl, (blk_cell BK307.out 4).trans rfl, (blk_cell BK307.out 5).trans rfl⟩ (fun hHeld => ?_); refine with_tabW legationlaw17_ResultChecks.tab1 legationlaw17_ResultChecks.bits1 (fun HT_ HW_ => ?_)
  generalize w11.drew = w12 at BK307 HB hHeld ⊢
  refine take_ (i := 0) (N := some 3) (v := ?_) (a' := ?_) #[true, false, false, false, false, false, false, false, false] rfl rfl (take_ofW HT_.out HW_.out (by kernel_rfl)) (fun _ _ _ h => h) (Or.inl ⟨by rfl, ?_⟩) hHeld ?_ ?_
  rotate_left
  · rintro w' ⟨s0, s1, s2, s3, s4, s5⟩
    go_simp
    with_reducible rfl
  rotate_left
  · simp only [Act.put, List.setIfInBounds_toArray, List.set_cons_zero, List.set_cons_succ, i64_w, i32_w]
    rfl
  refine take_ (i := 2) (N := some 5) (v := ?_) (a' := ?_) #[true, false, true, false, false, false, false, false, false] rfl rfl (take_ofW HT_.out HW_.out (by kernel_rfl)) (fun _ _ _ h => h) (Or.inl ⟨by rfl, ?_⟩) hHeld ?_ ?_
  rotate_left
  · rintro w' ⟨s0, s1, s2, s3, s4, s5⟩
    go_simp
    with_reducible rfl
  rotate_left
  · simp only [Act.put, List.setIfInBounds_toArray, List.set_cons_zero, List.set_cons_succ, i64_w, i32_w]
    rfl
  refine one_ (i := 1) (N := some 4) #[true, true, true, false, false, false, false, false, false] rfl rfl (one_of HT_.out (by kernel_rfl)) (by decide) (fun K hK => ?_)
  refine goes_ Tryz.func6 (by kernel_rfl) rfl #[.agg #[.int .i64 a0_0, .int .i64 a0_1, .slice A0_2 l0_2.length c0_2, .slice A0_3 l0_3.length c0_3, .bool a0_4, .int .i64 a0_5]] (by rfl) rfl rfl (by (try simp only [List.map_toArray, List.map_cons, List.map_nil]); rfl) ?_
  with_reducible refine (result_Check.calls k a0_0 a0_1 _ _ l0_2 (fun k_ => k_ < w.heap.size) _ _ l0_3 a0_4 a0_5 t308 _ ?side1 ?side2 ?side3 A2.out).mono ?_
  (case side1 => repeat (exact (Kd.C_below HR0_2.out HB.out)))
  (case side2 => exact HC0_2.out)
  (case side3 => exact Kd.V_mk HC0_3.out (Kd.F_below (Kd.C_F (Kd.heap_slice 43 k43_heap) HR0_3.out) (by repeat ((with_reducible exact HB.out)))))
  rintro e w13 ⟨rfl, hb⟩
  refine ⟨_, rfl, ?_⟩
  have n0_ := Aside0.mk (blk_below (g := gb307) (o := .cells #[.int .i64 a0_0, .int .i64 a0_1, .slice A0_2 l0_2.length c0_2, .slice A0_3 l0_3.length c0_3, .bool a0_4, .int .i64 a0_5] 28 (0, 0)) (by (with_reducible repeat (fail)); exact BK307.out) hb)
  have n1_ := Aside0.mk (below_step (by repeat ((with_reducible exact HB.out))) hb)
  clear BK307
  clear HB
  have BK307 := n0_
  have HB := n1_
  clear n0_ n1_
  (try clear hb)
  refine hK.out _ _ ⟨(blk_cell BK307.out 0).trans rfl, (blk_cell BK307.out 1).trans rfl, (blk_cell BK307.out 2).trans rfl, (blk_cell BK307.out 3).trans rfl, (blk_cell BK307.out 4).trans rfl, (blk_cell BK307.out 5).trans rfl⟩ (fun hHeld => ?_)
  clear hK K
  refine norm_ (a' := ?_) ?_ ?_
  rotate_left
  · show Act.put _ (some 4) _ = _
    simp only [Act.put, List.setIfInBounds_toArray, List.set_cons_zero, List.set_cons_succ, i64_w, i32_w]
    rfl
  refine one_ (i := 3) (N := some 6) #[true, true, true, true, false, false, false, false, false] rfl rfl (one_of HT_.out (by kernel_rfl)) (by decide) (fun K hK => ?_)
  refine goes_ Tryz.func7 (by kernel_rfl) rfl #[.agg #[.int .i64 a0_0, .int .i64 a0_1, .slice A0_2 l0_2.length c0_2, .slice A0_3 l0_3.length c0_3, .bool a0_4, .int .i64 a0_5]] (by rfl) rfl rfl (by (try simp only [List.map_toArray, List.map_cons, List.map_nil]); rfl) ?_
  with_reducible refine (legationref17_Check.calls k a0_0 a0_1 _ _ l0_2 _ _ l0_3 a0_4 a0_5 t309 _ ?side1 ?side2 ?side3 ?side4 A3.out).mono ?_
  (case side1 => repeat (exact (Kd.C_below HR0_2.out HB.out)))
  (case side2 => exact HC0_2.out)
  (case side3 => repeat (exact (Kd.C_below HR0_3.out HB.out)))
  (case side4 => exact HC0_3.out)
  rintro e w14 ⟨rfl, hb⟩
  refine ⟨_, rfl, ?_⟩
  have n0_ := Aside0.mk (blk_below (g := gb307) (o := .cells #[.int .i64 a0_0, .int .i64 a0_1, .slice A0_2 l0_2.length c0_2, .slice A0_3 l0_3.length c0_3, .bool a0_4, .int .i64 a0_5] 28 (0, 0)) (by (with_reducible repeat (fail)); exact BK307.out) hb)
  have n1_ := Aside0.mk (below_step (by repeat ((with_reducible exact HB.out))) hb)
  clear BK307
  clear HB
  have BK307 := n0_
  have HB := n1_
  clear n0_ n1_
  (try clear hb)
  refine hK.out _ _ ⟨(blk_cell BK307.out 0).trans rfl, (blk_cell BK307.out 1).trans rfl, (blk_cell BK307.out 2).trans rfl, (blk_cell BK307.out 3).trans rfl, (blk_cell BK307.out 4).trans rfl, (blk_cell BK307.out 5).trans rfl⟩ (fun hHeld => ?_)
  clear hK K
  refine norm_ (a' := ?_) ?_ ?_
  rotate_left
  · show Act.put _ (some 6) _ = _
    simp only [Act.put, List.setIfInBounds_toArray, List.set_cons_zero, List.set_cons_succ, i64_w, i32_w]
    rfl
  refine pure_ (i := 4) (N := some 7) (v := ?_) (a' := ?_) #[true, true, true, true, true, false, false, false, false] rfl rfl (any_of HT_.out (by kernel_rfl)) (fun _ _ _ h => h) (Or.inl ⟨by rfl, ?_⟩) ?_ ?_
  rotate_left
  · intro w'
    go_simp
    with_reducible rfl
  rotate_left
  · simp only [Act.put, List.setIfInBounds_toArray, List.set_cons_zero, List.set_cons_succ, i64_w, i32_w]
    rfl
  refine pure_ (i := 5) (N := some 8) (v := ?_) (a' := ?_) #[true, true, true, true, true, true, false, false, false] rfl rfl (any_of HT_.out (by kernel_rfl)) (fun _ _ _ h => h) (Or.inl ⟨by rfl, ?_⟩) ?_ ?_
  rotate_left
  · intro w'
    go_simp
    with_reducible rfl
  rotate_left
  · simp only [Act.put, List.setIfInBounds_toArray, List.set_cons_zero, List.set_cons_succ, i64_w, i32_w]
    rfl
  refine pure_ (i := 6) (N := some 9) (v := undef) (a' := ?_) #[true, true, true, true, true, true, true, false, false] rfl rfl (any_of HT_.out (by kernel_rfl)) (fun _ _ _ h => h) (Or.inr ⟨by rfl, rfl⟩) ?_ ?_
  rotate_left
  · simp only [Act.put, List.setIfInBounds_toArray, List.set_cons_zero, List.set_cons_succ, i64_w, i32_w]
    rfl
  refine pure_ (i := 7) (N := some 10) (v := ?_) (a' := ?_) #[true, true, true, true, true, true, true, true, false] rfl rfl (any_of HT_.out (by kernel_rfl)) (fun _ _ _ h => h) (Or.inl ⟨by rfl, ?_⟩) ?_ ?_
  rotate_left
  · intro w'
    go_simp
    with_reducible rfl
  rotate_left
  · simp only [Act.put, List.setIfInBounds_toArray, List.set_cons_zero, List.set_cons_succ, i64_w, i32_w]
    rfl
  refine pure_ (i := 8) (N := some 2) (v := ?_) (a' := ?_) #[true, true, true, true, true, true, true, true, true] rfl rfl (any_of HT_.out (by kernel_rfl)) (fun _ _ _ h => h) (Or.inl ⟨by rfl, ?_⟩) ?_ ?_
  rotate_left
  · intro w'
    go_simp
    with_reducible rfl
  rotate_left
  · simp only [Act.put, List.setIfInBounds_toArray, List.set_cons_zero, List.set_cons_succ, i64_w, i32_w]
    rfl
  refine done_ (done_of HT_.out (by kernel_rfl)) ?_
  try go_wp2
  go_ret
  exact ⟨by rfl, by repeat ((with_reducible exact HB.out))⟩
end Go.Proofs.YtgabadlneeffkaaGreatDoor.C
