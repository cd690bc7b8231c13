-- Written by lp.py: a program of this session's over the kit's printer. Not trusted: Lean checks it.
import Derived.Test.YtgabadlneeffkaaDoorLVx0
import Derived.Test.YtgabadlneeffkaaDoorLVx1
import Derived.Test.YtgabadlneeffkaaDoorLVx8
import Derived.Test.YtgabadlneeffkaaDoorLVx9
import Derived.Test.YtgabadlneeffkaaDoorLVx12
namespace Go.Proofs.YtgabadlneeffkaaDoor.S
open Go.RowKit Go.Proofs.YtgabadlneeffkaaDoorW.PrintWords Go.Proofs.YtgabadlneeffkaaDoorW.PrintLast Go.Proofs.YtgabadlneeffkaaDoorW.PrintMore
attribute [local go_sem] max2_int min2_int max_two min_two max_three min_three max_four min_four
set_option linter.unusedVariables false
set_option linter.unusedSimpArgs false
attribute [local go_sem high] eqA43
def atoiV (s : ByteArray) : Int := match Lib.atoiAll s.data.toList with | .ok v => v | Lib.NumEnd.syntax => 0 | .range => Lib.atoiSat s.data.toList
def atoiOk (s : ByteArray) : Bool := match Lib.atoiAll s.data.toList with | .ok _ => true | Lib.NumEnd.syntax => false | .range => false
def getMid (k : Nat) (l : List ByteArray) (a : Bool) : Option (Int × List ByteArray × List (List S43) × Bool × Int × Bool) :=
  if (rdOf ByteArray.empty l 1).toList = [114, 111, 119, 115] then (result_rows.f k (l.drop 2)).bind fun x => some (1, x.1, x.2.1, false, 0, a && x.2.2)
  else if Lib.hasPrefix (rdOf ByteArray.empty l 1).data.toList [101, 114, 114, 111, 114, 32] = true then
    (if 6 ≤ (rdOf ByteArray.empty l 1).size ∧ ((rdOf ByteArray.empty l 1).extract 6 (rdOf ByteArray.empty l 1).size).size ≤ 281474976710656 then some (3, [], [], false, atoiV ((rdOf ByteArray.empty l 1).extract 6 (rdOf ByteArray.empty l 1).size), a && atoiOk ((rdOf ByteArray.empty l 1).extract 6 (rdOf ByteArray.empty l 1).size)) else none)
  else some (2, [], [], (rdOf ByteArray.empty l 1).toList == [116, 114, 117, 101], 0, a)
def getRest (k : Nat) (L : List ByteArray) (a0 : ByteArray) : Option (Int × Int × List ByteArray × List (List S43) × Bool × Int × Int) :=
  if (rdOf ByteArray.empty L 0).size ≤ 281474976710656 then
    (getMid k L (atoiOk (rdOf ByteArray.empty L 0))).bind fun m =>
      (result_Put.f k (atoiV (rdOf ByteArray.empty L 0)) m.1 m.2.1 m.2.2.1 m.2.2.2.1 m.2.2.2.2.1).bind fun y =>
        if m.2.2.2.2.2 = true ∧ y.2 = 0 ∧ y.1.toList = a0.toList then some (atoiV (rdOf ByteArray.empty L 0), m.1, m.2.1, m.2.2.1, m.2.2.2.1, m.2.2.2.2.1, 0) else some (0, 0, [], [], false, 0, 2)
  else none
def result_Get.f (k : Nat) (a0 : ByteArray) : Option (Int × Int × List ByteArray × List (List S43) × Bool × Int × Int) :=
  if (a0.size : Int) > 65536 then some (0, 0, [], [], false, 0, 3) else
  (strings_Split.f a0 (⟨#[10]⟩ : ByteArray)).bind fun l => if l.length < 4611686018427387904 then
    (if (l.length : Int) < 3 then some (0, 0, [], [], false, 0, 2) else
    if (rdOf ByteArray.empty l ((l.length : Int) - 1)).toList = [] then getRest k (l.take (l.length - 1)) a0
    else some (0, 0, [], [], false, 0, 2))
    else none
theorem bytes_below1 {w : World} {e : TypeId} {s : ByteArray} : Below w.heap.size w (Lib.bytesWorld w e s) := bytes_below (Below.refl _ _) (Nat.le_refl _) e s
theorem atoi_calls (s : ByteArray) (hs : s.size ≤ 281474976710656) (w : World) (hG : Gl w) :
    Calls Tryd.prog 18 #[.string s] w fun e w' => ∃ ev : Value, e = .returned (.tuple #[.int .i64 (atoiV s), ev]) ∧ ((atoiOk s = true ∧ ev = .nilIface) ∨ (atoiOk s = false ∧ ∃ T N, ev = .iface T (.pointer (some ⟨N, 0, none⟩)))) ∧ Below w.heap.size w w' := by
  unfold atoiV atoiOk
  cases ha : Lib.atoiAll s.data.toList with
  | ok v =>
    refine (Tryd.strconv_Atoi_ok s (by omega) v ha w).mono ?_
    rintro e w' ⟨rfl, hw⟩
    refine ⟨_, rfl, .inl ⟨rfl, rfl⟩, ?_⟩
    rcases hw with rfl | ⟨t, rfl⟩
    · exact Below.refl _ _
    exact bytes_below1
  | range =>
    obtain ⟨tp, p, hv⟩ := hG.eran
    refine (Tryd.strconv_Atoi_range_var s hs ha tp p w hv).mono ?_
    rintro e w' ⟨N, rfl, _, _, hb⟩
    exact ⟨_, rfl, .inr ⟨rfl, _, N, rfl⟩, hb⟩
  | _ =>
    obtain ⟨tp, p, hv⟩ := hG.esyn
    refine (Tryd.strconv_Atoi_syntax_var s hs ha tp p w hv).mono ?_
    rintro e w' ⟨N, rfl, _, _, hb⟩
    exact ⟨_, rfl, .inr ⟨rfl, _, N, rfl⟩, hb⟩
theorem strs_cells {w : World} {A : Option Addr} {l : List ByteArray} (h : Kd.C Kd.string w A l.length l) (h2 : 2 ≤ l.length) : ∃ b o, A = some ⟨b, o, none⟩ ∧ w.cell? ⟨b, o, none⟩ = some (.string (rdOf ByteArray.empty l 0)) ∧ w.cell? ⟨b, o + 1, none⟩ = some (.string (rdOf ByteArray.empty l 1)) := by
  obtain ⟨ad, rfl, a0⟩ := Kd.at_string h 0 (by omega) (by omega)
  obtain ⟨ad', e', b0⟩ := Kd.at_string h 1 (by omega) (by omega)
  cases e'
  obtain ⟨b, o, sp⟩ := ad
  have hsp : sp = none := by
    cases sp with
    | none => rfl
    | some q =>
      exfalso
      have e : (⟨b, o, some q⟩ : Addr).add (0 : Int).toNat = ⟨b, o, some q⟩ := by simp [Addr.add]
      rw [e] at a0
      unfold World.cell? at a0
      revert a0
      simp only [Option.isSome_some, if_true]
      split <;> simp
  subst hsp
  exact ⟨b, o, rfl, by simpa [Addr.add] using a0, by simpa [Addr.add] using b0⟩
set_option maxHeartbeats 8000000 in
set_option maxRecDepth 1000000 in
theorem result_Get.calls (k : Nat) (a0 : ByteArray) (r1 r2 : Int) (r3 : List ByteArray) (r4 : List (List S43)) (r5 : Bool) (r6 r7 : Int) (w : World) (hG : Gl w) (h : result_Get.f k a0 = some (r1, r2, r3, r4, r5, r6, r7)) :
    Calls Tryd.prog 6 #[.string a0] w fun e w' => ∃ v0_ v1_ : Value, e = .returned (.tuple #[.agg #[.int .i64 r1, .int .i64 r2, v0_, v1_, .bool r5, .int .i64 r6], .int .i64 r7]) ∧ Kd.R Kd.string 9 w' w.heap.size (fun _ => True) v0_ r3 ∧ Kd.S (Kd.slice 43 k43) 40 w' w.heap.size (fun _ => True) v1_ r4 ∧ Below w.heap.size w w' := by
  unfold result_Get.f at h
  have HG := Aside0.mk hG
  have HH := Aside0.mk h
  clear hG h
  go_enter Tryd.func6, Tryd.ntmps6
  by_cases c0 : (a0.size : Int) > 65536
  · have c0b : decide ((a0.size : Int) > 65536) = true := decide_eq_true c0
    have h := HH.out
    rw [if_pos c0] at h
    simp only [Option.some.injEq, Prod.mk.injEq] at h
    obtain ⟨rfl, rfl, rfl, rfl, rfl, rfl, rfl⟩ := h
    replace c0 := eq_true c0
    clear HH
    go_wp2
    exact bodyPost_ret (results_ct rfl _ _ w.heap.size 28 #[.int .i64 0, .int .i64 0, .slice none 0 0, .slice none 0 0, .bool false, .int .i64 0] (0, 0) _ rfl (heap_alloc_new w _) Tryd.underlying28 rfl (by kernel_rfl)) rfl ⟨_, _, rfl, Kd.R_nil _ _ _ _ _, Kd.S_nil _ _ _ _ _, by exact below_alloc (Below.refl _ _) _⟩
  have h := HH.out
  rw [if_neg c0] at h
  obtain ⟨l, hl, h⟩ := Option.bind_eq_some_iff.1 h
  by_cases hb : l.length < 4611686018427387904
  case neg => rw [if_neg hb] at h; cases h
  rw [if_pos hb] at h
  have HBD := Aside0.mk hb
  clear hb
  have HL := Aside0.mk hl
  have HH2 := Aside0.mk h
  have c0b : ((a0.size : Int) > 65536) = False := eq_false c0
  clear HH h hl c0
  go_wp2_with fail
  refine (strings_Split.calls a0 _ l _ (Gl.below HG.out (below_alloc (Below.refl w.heap.size w) _)) HL.out).mono ?_
  rintro e w1 ⟨v0, rfl, hR, hb1⟩
  obtain ⟨A, c, rfl, hlc, hC⟩ := Kd.R_reads hR
  have HV := Aside0.mk (Kd.V_bound (Kd.R_V (base' := 0) hR))
  have hb0 := Aside0.mk ((below_alloc (Below.refl w.heap.size w) (.cells #[.int .i64 0, .int .i64 0, .slice none 0 0, .slice none 0 0, .bool false, .int .i64 0] 28)).trans (hb1.mono (by simp)))
  have HBK := Aside0.mk (show w1.heap[w.heap.size]? = some (.cells #[.int .i64 0, .int .i64 0, .slice none 0 0, .slice none 0 0, .bool false, .int .i64 0] 28 (0, 0)) from (hb1.block _ (by simp)).trans (heap_alloc_new w _))
  have HLC := Aside0.mk hlc
  have HCL := Aside0.mk hC
  clear hb1 hR hC hlc HL
  by_cases c1 : (l.length : Int) < 3
  · have c1b : decide ((l.length : Int) < 3) = true := decide_eq_true c1
    have h := HH2.out
    rw [if_pos c1] at h
    simp only [Option.some.injEq, Prod.mk.injEq] at h
    obtain ⟨rfl, rfl, rfl, rfl, rfl, rfl, rfl⟩ := h
    have hc0 := blk_cell HBK.out 0
    have hc1 := blk_cell HBK.out 1
    have hc2 := blk_cell HBK.out 2
    have hc3 := blk_cell HBK.out 3
    have hc4 := blk_cell HBK.out 4
    have hc5 := blk_cell HBK.out 5
    have hf0 := blk_frozen HBK.out 0
    have hf1 := blk_frozen HBK.out 1
    have hf2 := blk_frozen HBK.out 2
    have hf3 := blk_frozen HBK.out 3
    have hf4 := blk_frozen HBK.out 4
    have hf5 := blk_frozen HBK.out 5
    replace c1 := eq_true c1
    clear HH2 HV HCL HLC
    go_wp2
    exact bodyPost_ret (results_ct rfl _ _ w.heap.size 28 #[.int .i64 0, .int .i64 0, .slice none 0 0, .slice none 0 0, .bool false, .int .i64 0] (0, 0) _ rfl (by refine blk_put (cs := #[.int .i64 0, .int .i64 0, .slice none 0 0, .slice none 0 0, .bool false, .int .i64 0]) ?_ 5 _ rfl; refine blk_put (cs := #[.int .i64 0, .int .i64 0, .slice none 0 0, .slice none 0 0, .bool false, .int .i64 0]) ?_ 4 _ rfl; refine blk_put (cs := #[.int .i64 0, .int .i64 0, .slice none 0 0, .slice none 0 0, .bool false, .int .i64 0]) ?_ 3 _ rfl; refine blk_put (cs := #[.int .i64 0, .int .i64 0, .slice none 0 0, .slice none 0 0, .bool false, .int .i64 0]) ?_ 2 _ rfl; refine blk_put (cs := #[.int .i64 0, .int .i64 0, .slice none 0 0, .slice none 0 0, .bool false, .int .i64 0]) ?_ 1 _ rfl; refine blk_put (cs := #[.int .i64 0, .int .i64 0, .slice none 0 0, .slice none 0 0, .bool false, .int .i64 0]) ?_ 0 _ rfl; exact HBK.out) Tryd.underlying28 rfl (by kernel_rfl)) rfl ⟨_, _, rfl, Kd.R_nil _ _ _ _ _, Kd.S_nil _ _ _ _ _, by refine below_set ?_ (Nat.le_refl _); refine below_set ?_ (Nat.le_refl _); refine below_set ?_ (Nat.le_refl _); refine below_set ?_ (Nat.le_refl _); refine below_set ?_ (Nat.le_refl _); refine below_set ?_ (Nat.le_refl _); exact hb0.out⟩
  have h := HH2.out
  rw [if_neg c1] at h
  have c1b : ((l.length : Int) < 3) = False := eq_false c1
  have c1c : decide ((l.length : Int) < 3) = false := decide_eq_false c1
  obtain ⟨ad, rfl, hx⟩ := Kd.at_string HCL.out ((l.length : Int) - 1) (by omega) (by omega)
  have w1e : wrap64 ((l.length : Int) - 1) = (l.length : Int) - 1 := by have := HBD.out; unfold wrap64; omega
  have w2e : ((l.length : Int) - 1).toNat = l.length - 1 := by omega
  replace hx : w1.cell? (ad.add (wrap64 ((l.length : Int) - 1)).toNat) = some (.string (rdOf ByteArray.empty l ((l.length : Int) - 1))) := by rw [w1e]; exact hx
  have d1 : ((0 : Int) ≤ wrap64 ((l.length : Int) - 1)) = True := eq_true (by omega)
  have d2 : (wrap64 ((l.length : Int) - 1) < (l.length : Int)) = True := eq_true (by omega)
  have d3 : (wrap64 ((l.length : Int) - 1) ≤ (c : Int)) = True := eq_true (by have := HLC.out; omega)
  have d4 : ((wrap64 ((l.length : Int) - 1)).toNat ≤ c) = True := eq_true (by have := HLC.out; omega)
  have HW := Aside0.mk (show (wrap64 ((l.length : Int) - 1)).toNat = l.length - 1 by omega)
  clear w1e w2e
  have HH := Aside0.mk h
  have HN := Aside0.mk c1
  clear h HH2 c1
  by_cases c2 : (rdOf ByteArray.empty l ((l.length : Int) - 1)).toList = []
  · have h := HH.out
    rw [if_pos c2] at h
    have c2b : ((rdOf ByteArray.empty l ((l.length : Int) - 1)).toList == ([] : List UInt8)) = true := beq_iff_eq.mpr c2
    have c2c : ((rdOf ByteArray.empty l ((l.length : Int) - 1)).toList != ([] : List UInt8)) = false := bne_eq_false_iff_eq.mpr c2
    generalize rdOf ByteArray.empty l ((l.length : Int) - 1) = last at *
    clear HH c2
    go_upto_region 7 with (fail)
    rw [HW.out]
    have hL : (l.take (l.length - 1)).length = l.length - 1 := by rw [List.length_take]; omega
    have HCT := Kd.C_take HCL.out (show l.length - 1 ≤ l.length by omega)
    have HVT := Kd.V_mk (d := Kd.string) (e := 9) (base := 0) (c := c) (show (l.take (l.length - 1)).length ≤ c by have := HLC.out; omega) (Kd.F_take (Kd.V_at HV.out).2.2 (show l.length - 1 ≤ l.length by omega))
    have hn := HN.out
    rw [← hL]
    have h2 : 2 ≤ (l.take (l.length - 1)).length := by omega
    have h3 : (l.take (l.length - 1)).length < c := by have := HLC.out; omega
    clear HN HLC HCL HV HW d1 d2 d3 d4 hx c1b c1c hL hn HBD c2b c2c
    generalize l.take (l.length - 1) = L at *
    unfold getRest at h
    by_cases hs : (rdOf ByteArray.empty L 0).size ≤ 281474976710656
    case neg => rw [if_neg hs] at h; cases h
    rw [if_pos hs] at h
    obtain ⟨m, hm, h⟩ := Option.bind_eq_some_iff.1 h
    obtain ⟨y, hy, h⟩ := Option.bind_eq_some_iff.1 h
    obtain ⟨b, o, e, q0, q1⟩ := strs_cells HCT h2
    injection e with e
    subst e
    have HH := Aside0.mk h
    have HM := Aside0.mk hm
    have HY := Aside0.mk hy
    have HS := Aside0.mk hs
    have HV := Aside0.mk HVT
    have H2 := Aside0.mk h2
    have H3 := Aside0.mk h3
    have e0 : ((0 : Int) < (L.length : Int)) = True := eq_true (by omega)
    have e1 : ((1 : Int) < (L.length : Int)) = True := eq_true (by omega)
    have e0n : (0 < L.length) = True := eq_true (by omega)
    have e1n : (1 < L.length) = True := eq_true (by omega)
    clear h hm hy hs h2 h3 HCT HVT
    go_wp2_with fail
    refine (atoi_calls (rdOf ByteArray.empty L 0) HS.out _ (Gl.below HG.out hb0.out)).mono ?_
    rintro e w2 ⟨ev, rfl, hev, hb2⟩
    have q1' := pw_cell_below hb2 q1
    have HBK2 := Aside0.mk (blk_below HBK.out hb2)
    have hb02 := Aside0.mk (below_then hb0.out hb0.out.size hb2)
    have HV2 := Aside0.mk (Kd.V_below HV.out hb2)
    have hw12 := Aside0.mk hb2.size
    have HLT := Aside0.mk (blk_lt HBK2.out)
    clear hb2 q0 q1 HBK hb0 HV
    go_upto_region 9 with (fail)
    have HEV := Aside0.mk hev
    clear hev
    go_cut [8] (fun v8 wc => v8 = .bool (atoiOk (rdOf ByteArray.empty L 0)) ∧ Aside0 (wc.heap[w2.heap.size]? = some (.cells #[.int .i64 (atoiV (rdOf ByteArray.empty L 0)), .int .i64 2, .slice none 0 0, .slice none 0 0, .bool false, .int .i64 0] 28 (0, 0))) ∧ Aside0 (wc.heap[w.heap.size]? = some (.cells #[.int .i64 0, .int .i64 0, .slice none 0 0, .slice none 0 0, .bool false, .int .i64 0] 28 (0, 0))) ∧ Aside0 (wc.cell? ⟨b, o + 1, none⟩ = some (.string (rdOf ByteArray.empty L 1))) ∧ Aside0 (Kd.V Kd.string 9 wc 0 (fun k_ => True ∧ k_ < w1.heap.size) (.slice (some ⟨b, o, none⟩) L.length c) L) ∧ Aside0 (Below w.heap.size w wc) ∧ Aside0 (w2.heap.size < wc.heap.size))
    case first =>
      have fin : ∀ (W : World), W = w2.alloc (.cells #[.int .i64 (atoiV (rdOf ByteArray.empty L 0)), .int .i64 2, .slice none 0 0, .slice none 0 0, .bool false, .int .i64 0] 28) → Aside0 (W.heap[w2.heap.size]? = some (.cells #[.int .i64 (atoiV (rdOf ByteArray.empty L 0)), .int .i64 2, .slice none 0 0, .slice none 0 0, .bool false, .int .i64 0] 28 (0, 0))) ∧ Aside0 (W.heap[w.heap.size]? = some (.cells #[.int .i64 0, .int .i64 0, .slice none 0 0, .slice none 0 0, .bool false, .int .i64 0] 28 (0, 0))) ∧ Aside0 (W.cell? ⟨b, o + 1, none⟩ = some (.string (rdOf ByteArray.empty L 1))) ∧ Aside0 (Kd.V Kd.string 9 W 0 (fun k_ => True ∧ k_ < w1.heap.size) (.slice (some ⟨b, o, none⟩) L.length c) L) ∧ Aside0 (Below w.heap.size w W) ∧ Aside0 (w2.heap.size < W.heap.size) := by
        rintro W rfl
        exact ⟨⟨heap_alloc_new _ _⟩, ⟨blk_alloc HBK2.out _⟩, ⟨pw_cell_below (below_alloc (Below.refl _ _) _) q1'⟩, ⟨Kd.V_alloc HV2.out _⟩, ⟨below_alloc hb02.out _⟩, ⟨by simp⟩⟩
      have FIN := Aside0.mk fin
      clear fin q1'
      rcases HEV.out with ⟨hok, rfl⟩ | ⟨hok, T, N, rfl⟩
      · have HOK := Aside0.mk hok
        clear hok HEV
        go_wp2
        go_meet
        case rel => exact ⟨by rw [HOK.out], FIN.out _ rfl⟩
      have HOK := Aside0.mk hok
      clear hok HEV
      go_wp2
      go_meet
      case rel => exact ⟨by rw [HOK.out], FIN.out _ rfl⟩
    case rest =>
      obtain ⟨rfl, HR, HZ, HQ, HVV, HBB, HSZ⟩ := hcut
      clear HEV HBK2 hb02 HV2 q1'
      go_upto_block 0 with (fail)
      go_cut [8] (fun v8 wd => ∃ v2 v3 : Value, v8 = .bool m.2.2.2.2.2 ∧ Aside0 (wd.heap[w2.heap.size]? = some (.cells #[.int .i64 (atoiV (rdOf ByteArray.empty L 0)), .int .i64 m.1, v2, v3, .bool m.2.2.2.1, .int .i64 m.2.2.2.2.1] 28 (0, 0))) ∧ Aside0 (wd.heap[w.heap.size]? = some (.cells #[.int .i64 0, .int .i64 0, .slice none 0 0, .slice none 0 0, .bool false, .int .i64 0] 28 (0, 0))) ∧ Aside0 (Kd.R Kd.string 9 wd w.heap.size (fun k_ => w2.heap.size < k_) v2 m.2.1) ∧ Aside0 (Kd.S (Kd.slice 43 k43) 40 wd w.heap.size (fun k_ => w2.heap.size < k_) v3 m.2.2.1) ∧ Aside0 (Below w.heap.size w wd))
      case first =>
        have q := HQ.out
        have hm := HM.out
        have hf1 := blk_frozen HR.out 1
        have hf2 := blk_frozen HR.out 2
        have hf3 := blk_frozen HR.out 3
        have hf4 := blk_frozen HR.out 4
        have hf5 := blk_frozen HR.out 5
        have hr1 := blk_cell HR.out 1
        have hr2 := blk_cell HR.out 2
        have hr3 := blk_cell HR.out 3
        have hr4 := blk_cell HR.out 4
        have hr5 := blk_cell HR.out 5
        unfold getMid at hm
        have hc2 : (c = 2) = False := eq_false (by have := H2.out; have := H3.out; omega)
        have h2l : (2 ≤ L.length) = True := eq_true H2.out
        have h2i : ((2 : Int) ≤ (L.length : Int)) = True := eq_true (by have := H2.out; omega)
        clear HH HY HM HQ
        by_cases cr : (rdOf ByteArray.empty L 1).toList = [114, 111, 119, 115]
        · rw [if_pos cr] at hm
          obtain ⟨x, hx, hm⟩ := Option.bind_eq_some_iff.1 hm
          obtain rfl := Option.some.inj hm
          have crb : ((rdOf ByteArray.empty L 1).toList == [114, 111, 119, 115]) = true := beq_iff_eq.mpr cr
          have HX := Aside0.mk hx
          clear hx hm cr
          generalize rdOf ByteArray.empty L 1 = s1 at *
          go_wp2_with fail
          have hld : (L.drop 2).length = L.length - 2 := List.length_drop
          rw [← hld]
          clear hld
          have hV : Kd.V Kd.string 9 (wc.setCell ⟨w2.heap.size, 1, none⟩ (.int .i64 1)) (wc.setCell ⟨w2.heap.size, 1, none⟩ (.int .i64 1)).heap.size (fun k_ => True ∧ k_ < w1.heap.size) (.slice (some ⟨b, o + 2, none⟩) (L.drop 2).length (c - 2)) (L.drop 2) := by
            have hF := Kd.F_cut (Kd.V_at (Kd.V_far HVV.out (p := ⟨w2.heap.size, 1, none⟩) (fun k_ hk => by have := hk.2; have := hw12.out; show k_ ≠ w2.heap.size; omega) (.int .i64 1))).2.2 H2.out (show L.length ≤ c by have := H3.out; omega)
            rw [if_neg (of_eq_false hc2)] at hF
            have ea : (some (⟨b, o, none⟩ : Addr)).map (·.add (2 * Kd.string.sz)) = some ⟨b, o + 2, none⟩ := by simp [Addr.add, show Kd.string.sz = 1 from rfl]
            rw [ea] at hF
            exact Kd.V_mk (by rw [List.length_drop]; have := H3.out; omega) hF
          have hB4 := below_set (j := 1) (v := (.int .i64 1)) HBB.out (Nat.le_of_lt HLT.out)
          refine (result_rows.calls k _ (some ⟨b, o + 2, none⟩) (c - 2) (L.drop 2) x.1 x.2.1 x.2.2 _ hV (Gl.below HG.out hB4) HX.out).mono ?_
          rintro e w5 ⟨v0, v1, rfl, hR, hS, hb⟩
          have hsz : (wc.setCell ⟨w2.heap.size, 1, none⟩ (.int .i64 1)).heap.size = wc.heap.size := by simp
          obtain ⟨A5, c5, rfl, _, _⟩ := Kd.R_reads hR
          obtain ⟨A6, c6, rfl, _, _⟩ := Kd.S_reads hS
          rw [hsz] at hR hS
          have HR5 := Aside0.mk (blk_below (blk_put HR.out 1 (.int .i64 1) rfl) hb)
          have HZ5 := Aside0.mk (blk_below (blk_far HZ.out (p := ⟨w2.heap.size, 1, none⟩) (by show w.heap.size ≠ w2.heap.size; have := HLT.out; omega) (.int .i64 1)) hb)
          have HB5 := Aside0.mk (below_then hB4 hB4.size hb)
          have HRR := Aside0.mk (Kd.R_lower (Kd.R_mono (ok' := fun k_ => w2.heap.size < k_) hR (fun k_ hk => Nat.lt_of_lt_of_le HSZ.out hk)) HBB.out.size)
          have HSS := Aside0.mk (Kd.S_lower (Kd.S_mono (ok' := fun k_ => w2.heap.size < k_) hS (fun k_ hk => Nat.lt_of_lt_of_le HSZ.out hk)) HBB.out.size)
          have hf2 := blk_frozen HR5.out 2
          have hf3 := blk_frozen HR5.out 3
          have hr2 := blk_cell HR5.out 2
          have hr3 := blk_cell HR5.out 3
          clear hR hS hb hB4 hV hsz hf1 hf4 hf5 hr1 hr4 hr5 q HX
          have FIN := Aside0.mk (show ∀ W : World, W = ((w5.setCell ⟨w2.heap.size, 2, none⟩ (.slice A5 x.1.length c5)).setCell ⟨w2.heap.size, 3, none⟩ (.slice A6 x.2.1.length c6)) → Aside0 (W.heap[w2.heap.size]? = some (.cells #[.int .i64 (atoiV (rdOf ByteArray.empty L 0)), .int .i64 1, .slice A5 x.1.length c5, .slice A6 x.2.1.length c6, .bool false, .int .i64 0] 28 (0, 0))) ∧ Aside0 (W.heap[w.heap.size]? = some (.cells #[.int .i64 0, .int .i64 0, .slice none 0 0, .slice none 0 0, .bool false, .int .i64 0] 28 (0, 0))) ∧ Aside0 (Kd.R Kd.string 9 W w.heap.size (fun k_ => w2.heap.size < k_) (.slice A5 x.1.length c5) x.1) ∧ Aside0 (Kd.S (Kd.slice 43 k43) 40 W w.heap.size (fun k_ => w2.heap.size < k_) (.slice A6 x.2.1.length c6) x.2.1) ∧ Aside0 (Below w.heap.size w W) from by
            rintro W rfl
            have hne : w.heap.size ≠ w2.heap.size := Nat.ne_of_lt HLT.out
            have hle : w.heap.size ≤ w2.heap.size := Nat.le_of_lt HLT.out
            have hk : ∀ k_, w2.heap.size < k_ → k_ ≠ w2.heap.size := fun k_ h_ => Nat.ne_of_gt h_
            exact ⟨⟨blk_put (blk_put HR5.out 2 _ rfl) 3 _ rfl⟩, ⟨blk_far (blk_far HZ5.out (p := ⟨w2.heap.size, 2, none⟩) hne _) (p := ⟨w2.heap.size, 3, none⟩) hne _⟩, ⟨Kd.R_far (Kd.R_far HRR.out (p := ⟨w2.heap.size, 2, none⟩) hk _) (p := ⟨w2.heap.size, 3, none⟩) hk _⟩, ⟨Kd.S_far (Kd.S_far HSS.out (p := ⟨w2.heap.size, 2, none⟩) hk _) (p := ⟨w2.heap.size, 3, none⟩) hk _⟩, ⟨below_set (below_set HB5.out hle) hle⟩⟩)
          rcases Bool.eq_false_or_eq_true (atoiOk (rdOf ByteArray.empty L 0)) with hok | hok
          all_goals
            rw [hok]
            have HOK := Aside0.mk hok
            clear hok
            go_wp2
            go_meet
            case rel => exact ⟨_, _, by rw [HOK.out]; rfl, FIN.out _ rfl⟩
        rw [if_neg cr] at hm
        have crb : ((rdOf ByteArray.empty L 1).toList == [114, 111, 119, 115]) = false := beq_eq_false_iff_ne.mpr cr
        clear cr
        generalize rdOf ByteArray.empty L 1 = s1 at *
        have HM := Aside0.mk hm
        clear hm
        go_wp2_with fail
        refine (Tryd.strings_HasPrefix s1 _ _).mono ?_
        rintro e w5 ⟨rfl, rfl⟩
        have hm := HM.out
        by_cases cp : Lib.hasPrefix s1.data.toList [101, 114, 114, 111, 114, 32] = true
        · rw [if_pos cp] at hm
          by_cases hz : 6 ≤ s1.size ∧ (s1.extract 6 s1.size).size ≤ 281474976710656
          case neg => rw [if_neg hz] at hm; cases hm
          rw [if_pos hz] at hm
          obtain rfl := Option.some.inj hm
          have HZZ := Aside0.mk hz.2
          have hz1 : (6 ≤ s1.size) = True := eq_true hz.1
          have hz2 : ((6 : Int) ≤ (s1.size : Int)) = True := eq_true (by have := hz.1; omega)
          have cpb : Lib.hasPrefix s1.data.toList (⟨#[101, 114, 114, 111, 114, 32]⟩ : ByteArray).data.toList = true := cp
          clear hm hz cp HM
          rw [cpb]
          clear cpb
          go_wp2_with fail
          refine (atoi_calls (s1.extract 6 s1.size) HZZ.out _ (Gl.below HG.out HBB.out)).mono ?_
          rintro e w6 ⟨ev2, rfl, hev2, hb6⟩
          have HR6 := Aside0.mk (blk_below HR.out hb6)
          have HZ6 := Aside0.mk (blk_below HZ.out hb6)
          have HB6 := Aside0.mk (below_then HBB.out HBB.out.size hb6)
          have hf1 := blk_frozen HR6.out 1
          have hf5 := blk_frozen HR6.out 5
          have hr1 := blk_cell HR6.out 1
          have hr5 := blk_cell HR6.out 5
          have HEV := Aside0.mk hev2
          clear hb6 hev2 q HR HZ HVV HSZ HBB hf2 hf3 hf4 hr2 hr3 hr4
          have FIN := Aside0.mk (show ∀ W : World, W = ((w6.setCell ⟨w2.heap.size, 1, none⟩ (.int .i64 3)).setCell ⟨w2.heap.size, 5, none⟩ (.int .i64 (atoiV (s1.extract 6 s1.size)))) → Aside0 (W.heap[w2.heap.size]? = some (.cells #[.int .i64 (atoiV (rdOf ByteArray.empty L 0)), .int .i64 3, .slice none 0 0, .slice none 0 0, .bool false, .int .i64 (atoiV (s1.extract 6 s1.size))] 28 (0, 0))) ∧ Aside0 (W.heap[w.heap.size]? = some (.cells #[.int .i64 0, .int .i64 0, .slice none 0 0, .slice none 0 0, .bool false, .int .i64 0] 28 (0, 0))) ∧ Aside0 (Kd.R Kd.string 9 W w.heap.size (fun k_ => w2.heap.size < k_) (.slice none 0 0) []) ∧ Aside0 (Kd.S (Kd.slice 43 k43) 40 W w.heap.size (fun k_ => w2.heap.size < k_) (.slice none 0 0) []) ∧ Aside0 (Below w.heap.size w W) from by
            rintro W rfl
            have hne : w.heap.size ≠ w2.heap.size := Nat.ne_of_lt HLT.out
            have hle : w.heap.size ≤ w2.heap.size := Nat.le_of_lt HLT.out
            exact ⟨⟨(blk_put (blk_put HR6.out 1 _ rfl) 5 _ rfl)⟩, ⟨(blk_far (blk_far HZ6.out (p := ⟨w2.heap.size, 1, none⟩) hne _) (p := ⟨w2.heap.size, 5, none⟩) hne _)⟩, ⟨Kd.R_nil _ _ _ _ _⟩, ⟨Kd.S_nil _ _ _ _ _⟩, ⟨(below_set (below_set HB6.out hle) hle)⟩⟩)
          rcases Bool.eq_false_or_eq_true (atoiOk (rdOf ByteArray.empty L 0)) with hok | hok
          all_goals
            rw [hok]
            have HOK := Aside0.mk hok
            clear hok
            rcases HEV.out with ⟨hok2, rfl⟩ | ⟨hok2, T, N, rfl⟩
            all_goals
              have HOK2 := Aside0.mk hok2
              clear hok2 HEV
              go_wp2
              go_meet
              case rel => exact ⟨_, _, by rw [HOK.out, HOK2.out]; rfl, FIN.out _ rfl⟩
        rw [if_neg cp] at hm
        obtain rfl := Option.some.inj hm
        have cpb : Lib.hasPrefix s1.data.toList (⟨#[101, 114, 114, 111, 114, 32]⟩ : ByteArray).data.toList = false := by simpa using cp
        have FIN := Aside0.mk (show ∀ W : World, W = (w5.setCell ⟨w2.heap.size, 4, none⟩ (.bool (s1.toList == [116, 114, 117, 101]))) → Aside0 (W.heap[w2.heap.size]? = some (.cells #[.int .i64 (atoiV (rdOf ByteArray.empty L 0)), .int .i64 2, .slice none 0 0, .slice none 0 0, .bool (s1.toList == [116, 114, 117, 101]), .int .i64 0] 28 (0, 0))) ∧ Aside0 (W.heap[w.heap.size]? = some (.cells #[.int .i64 0, .int .i64 0, .slice none 0 0, .slice none 0 0, .bool false, .int .i64 0] 28 (0, 0))) ∧ Aside0 (Kd.R Kd.string 9 W w.heap.size (fun k_ => w2.heap.size < k_) (.slice none 0 0) []) ∧ Aside0 (Kd.S (Kd.slice 43 k43) 40 W w.heap.size (fun k_ => w2.heap.size < k_) (.slice none 0 0) []) ∧ Aside0 (Below w.heap.size w W) from by
          rintro W rfl
          have hne : w.heap.size ≠ w2.heap.size := Nat.ne_of_lt HLT.out
          have hle : w.heap.size ≤ w2.heap.size := Nat.le_of_lt HLT.out
          exact ⟨⟨(blk_put HR.out 4 _ rfl)⟩, ⟨(blk_far HZ.out (p := ⟨w2.heap.size, 4, none⟩) hne _)⟩, ⟨Kd.R_nil _ _ _ _ _⟩, ⟨Kd.S_nil _ _ _ _ _⟩, ⟨(below_set HBB.out hle)⟩⟩)
        clear hm cp HM
        rw [cpb]
        clear cpb
        go_wp2
        go_meet
        case rel => exact ⟨_, _, rfl, FIN.out _ rfl⟩
      case rest =>
        obtain ⟨v2, v3, rfl, HR2, HZ2, HRV, HSV, HB2⟩ := hcut
        clear HR HZ HQ HVV HBB HSZ HM HS H2 H3 e0 e1 e0n e1n hw12
        obtain ⟨A2, c2_, rfl, hl2, hC2⟩ := Kd.R_reads HRV.out
        obtain ⟨A3, c3_, rfl, hl3, hC3⟩ := Kd.S_reads HSV.out
        have HL2 := Aside0.mk hl2
        have HC2 := Aside0.mk hC2
        have hg0 := blk_cell HR2.out 0
        have hg1 := blk_cell HR2.out 1
        have hg2 := blk_cell HR2.out 2
        have hg3 := blk_cell HR2.out 3
        have hg4 := blk_cell HR2.out 4
        have hg5 := blk_cell HR2.out 5
        clear hl2 hC2 hl3 hC3
        go_wp2_with fail
        refine (result_Put.calls k (atoiV (rdOf ByteArray.empty L 0)) m.1 A2 c2_ m.2.1 _ A3 c3_ m.2.2.1 m.2.2.2.1 m.2.2.2.2.1 y.1 y.2 _ HC2.out HL2.out (Kd.S_V HSV.out) (Gl.below HG.out HB2.out) HY.out).mono ?_
        rintro e w7 ⟨rfl, hb7⟩
        have HR7 := Aside0.mk (blk_below HR2.out hb7)
        have HZ7 := Aside0.mk (blk_below HZ2.out hb7)
        have HB7 := Aside0.mk (below_then HB2.out HB2.out.size hb7)
        have HRV7 := Aside0.mk (Kd.R_below HRV.out hb7)
        have HSV7 := Aside0.mk (Kd.S_below HSV.out hb7)
        have h := HH.out
        clear hb7 HR2 HZ2 HB2 HRV HSV HL2 HC2 HY HH hg0 hg1 hg2 hg3 hg4 hg5
        have hg0 := blk_cell HR7.out 0
        have hg1 := blk_cell HR7.out 1
        have hg2 := blk_cell HR7.out 2
        have hg3 := blk_cell HR7.out 3
        have hg4 := blk_cell HR7.out 4
        have hg5 := blk_cell HR7.out 5
        have hc0 := blk_cell HZ7.out 0
        have hc1 := blk_cell HZ7.out 1
        have hc2 := blk_cell HZ7.out 2
        have hc3 := blk_cell HZ7.out 3
        have hc4 := blk_cell HZ7.out 4
        have hc5 := blk_cell HZ7.out 5
        have hf0 := blk_frozen HZ7.out 0
        have hf1 := blk_frozen HZ7.out 1
        have hf2 := blk_frozen HZ7.out 2
        have hf3 := blk_frozen HZ7.out 3
        have hf4 := blk_frozen HZ7.out 4
        have hf5 := blk_frozen HZ7.out 5
        rcases Bool.eq_false_or_eq_true m.2.2.2.2.2 with hmo | hmo
        · rw [hmo]
          by_cases k1 : y.2 = 0
          · have c0b : ((y.2 : Int) != 0) = false := bne_eq_false_iff_eq.mpr k1
            by_cases k2 : y.1.toList = a0.toList
            · rw [if_pos ⟨hmo, k1, k2⟩] at h
              simp only [Option.some.injEq, Prod.mk.injEq] at h
              obtain ⟨rfl, rfl, rfl, rfl, rfl, rfl, rfl⟩ := h
              have c1b : (y.1.toList == a0.toList) = true := beq_iff_eq.mpr k2
              have c1c : (y.1.toList != a0.toList) = false := bne_eq_false_iff_eq.mpr k2
              clear k1 k2 hmo
              go_wp2
              refine bodyPost_ret (results_ct rfl _ _ w.heap.size 28 #[.int .i64 (atoiV (rdOf ByteArray.empty L 0)), .int .i64 m.1, .slice A2 m.2.1.length c2_, .slice A3 m.2.2.1.length c3_, .bool m.2.2.2.1, .int .i64 m.2.2.2.2.1] (0, 0) _ rfl (by refine blk_put (cs := #[.int .i64 (atoiV (rdOf ByteArray.empty L 0)), .int .i64 m.1, .slice A2 m.2.1.length c2_, .slice A3 m.2.2.1.length c3_, .bool m.2.2.2.1, .int .i64 0]) ?_ 5 _ rfl; refine blk_put (cs := #[.int .i64 (atoiV (rdOf ByteArray.empty L 0)), .int .i64 m.1, .slice A2 m.2.1.length c2_, .slice A3 m.2.2.1.length c3_, .bool false, .int .i64 0]) ?_ 4 _ rfl; refine blk_put (cs := #[.int .i64 (atoiV (rdOf ByteArray.empty L 0)), .int .i64 m.1, .slice A2 m.2.1.length c2_, .slice none 0 0, .bool false, .int .i64 0]) ?_ 3 _ rfl; refine blk_put (cs := #[.int .i64 (atoiV (rdOf ByteArray.empty L 0)), .int .i64 m.1, .slice none 0 0, .slice none 0 0, .bool false, .int .i64 0]) ?_ 2 _ rfl; refine blk_put (cs := #[.int .i64 (atoiV (rdOf ByteArray.empty L 0)), .int .i64 0, .slice none 0 0, .slice none 0 0, .bool false, .int .i64 0]) ?_ 1 _ rfl; refine blk_put (cs := #[.int .i64 0, .int .i64 0, .slice none 0 0, .slice none 0 0, .bool false, .int .i64 0]) ?_ 0 _ rfl; exact HZ7.out) Tryd.underlying28 rfl (by kernel_rfl)) rfl ⟨_, _, rfl, ?_, ?_, ?_⟩
              · have hk : ∀ k_, w.heap.size < k_ → k_ ≠ w.heap.size := fun k_ h_ => Nat.ne_of_gt h_
                refine Kd.R_mono (ok := fun k_ => w.heap.size < k_) ?_ (fun _ _ => trivial)
                refine Kd.R_far ?_ hk _; refine Kd.R_far ?_ hk _; refine Kd.R_far ?_ hk _; refine Kd.R_far ?_ hk _; refine Kd.R_far ?_ hk _; refine Kd.R_far ?_ hk _; exact Kd.R_mono HRV7.out (fun k_ hk_ => Nat.lt_trans HLT.out hk_)
              · have hk : ∀ k_, w.heap.size < k_ → k_ ≠ w.heap.size := fun k_ h_ => Nat.ne_of_gt h_
                refine Kd.S_mono (ok := fun k_ => w.heap.size < k_) ?_ (fun _ _ => trivial)
                refine Kd.S_far ?_ hk _; refine Kd.S_far ?_ hk _; refine Kd.S_far ?_ hk _; refine Kd.S_far ?_ hk _; refine Kd.S_far ?_ hk _; refine Kd.S_far ?_ hk _; exact Kd.S_mono HSV7.out (fun k_ hk_ => Nat.lt_trans HLT.out hk_)
              refine below_set ?_ (Nat.le_refl _); refine below_set ?_ (Nat.le_refl _); refine below_set ?_ (Nat.le_refl _); refine below_set ?_ (Nat.le_refl _); refine below_set ?_ (Nat.le_refl _); refine below_set ?_ (Nat.le_refl _); exact HB7.out
            have dummy_ : True := trivial
            rw [if_neg (fun h_ => k2 h_.2.2)] at h
            simp only [Option.some.injEq, Prod.mk.injEq] at h
            obtain ⟨rfl, rfl, rfl, rfl, rfl, rfl, rfl⟩ := h
            have c1b : (y.1.toList == a0.toList) = false := beq_eq_false_iff_ne.mpr k2
            have c1c : (y.1.toList != a0.toList) = true := bne_iff_ne.mpr k2
            clear k1 k2 hmo
            go_wp2
            exact bodyPost_ret (results_ct rfl _ _ w.heap.size 28 #[.int .i64 0, .int .i64 0, .slice none 0 0, .slice none 0 0, .bool false, .int .i64 0] (0, 0) _ rfl (by refine blk_put (cs := #[.int .i64 0, .int .i64 0, .slice none 0 0, .slice none 0 0, .bool false, .int .i64 0]) ?_ 5 _ rfl; refine blk_put (cs := #[.int .i64 0, .int .i64 0, .slice none 0 0, .slice none 0 0, .bool false, .int .i64 0]) ?_ 4 _ rfl; refine blk_put (cs := #[.int .i64 0, .int .i64 0, .slice none 0 0, .slice none 0 0, .bool false, .int .i64 0]) ?_ 3 _ rfl; refine blk_put (cs := #[.int .i64 0, .int .i64 0, .slice none 0 0, .slice none 0 0, .bool false, .int .i64 0]) ?_ 2 _ rfl; refine blk_put (cs := #[.int .i64 0, .int .i64 0, .slice none 0 0, .slice none 0 0, .bool false, .int .i64 0]) ?_ 1 _ rfl; refine blk_put (cs := #[.int .i64 0, .int .i64 0, .slice none 0 0, .slice none 0 0, .bool false, .int .i64 0]) ?_ 0 _ rfl; exact HZ7.out) Tryd.underlying28 rfl (by kernel_rfl)) rfl ⟨_, _, rfl, Kd.R_nil _ _ _ _ _, Kd.S_nil _ _ _ _ _, by refine below_set ?_ (Nat.le_refl _); refine below_set ?_ (Nat.le_refl _); refine below_set ?_ (Nat.le_refl _); refine below_set ?_ (Nat.le_refl _); refine below_set ?_ (Nat.le_refl _); refine below_set ?_ (Nat.le_refl _); exact HB7.out⟩
          rw [if_neg (fun h_ => k1 h_.2.1)] at h
          simp only [Option.some.injEq, Prod.mk.injEq] at h
          obtain ⟨rfl, rfl, rfl, rfl, rfl, rfl, rfl⟩ := h
          have c0b : ((y.2 : Int) != 0) = true := bne_iff_ne.mpr k1
          clear k1 hmo
          go_wp2
          exact bodyPost_ret (results_ct rfl _ _ w.heap.size 28 #[.int .i64 0, .int .i64 0, .slice none 0 0, .slice none 0 0, .bool false, .int .i64 0] (0, 0) _ rfl (by refine blk_put (cs := #[.int .i64 0, .int .i64 0, .slice none 0 0, .slice none 0 0, .bool false, .int .i64 0]) ?_ 5 _ rfl; refine blk_put (cs := #[.int .i64 0, .int .i64 0, .slice none 0 0, .slice none 0 0, .bool false, .int .i64 0]) ?_ 4 _ rfl; refine blk_put (cs := #[.int .i64 0, .int .i64 0, .slice none 0 0, .slice none 0 0, .bool false, .int .i64 0]) ?_ 3 _ rfl; refine blk_put (cs := #[.int .i64 0, .int .i64 0, .slice none 0 0, .slice none 0 0, .bool false, .int .i64 0]) ?_ 2 _ rfl; refine blk_put (cs := #[.int .i64 0, .int .i64 0, .slice none 0 0, .slice none 0 0, .bool false, .int .i64 0]) ?_ 1 _ rfl; refine blk_put (cs := #[.int .i64 0, .int .i64 0, .slice none 0 0, .slice none 0 0, .bool false, .int .i64 0]) ?_ 0 _ rfl; exact HZ7.out) Tryd.underlying28 rfl (by kernel_rfl)) rfl ⟨_, _, rfl, Kd.R_nil _ _ _ _ _, Kd.S_nil _ _ _ _ _, by refine below_set ?_ (Nat.le_refl _); refine below_set ?_ (Nat.le_refl _); refine below_set ?_ (Nat.le_refl _); refine below_set ?_ (Nat.le_refl _); refine below_set ?_ (Nat.le_refl _); refine below_set ?_ (Nat.le_refl _); exact HB7.out⟩
        rw [hmo]
        rw [if_neg (fun h_ => by rw [hmo] at h_; exact absurd h_.1 (by decide))] at h
        simp only [Option.some.injEq, Prod.mk.injEq] at h
        obtain ⟨rfl, rfl, rfl, rfl, rfl, rfl, rfl⟩ := h
        clear hmo
        go_wp2
        exact bodyPost_ret (results_ct rfl _ _ w.heap.size 28 #[.int .i64 0, .int .i64 0, .slice none 0 0, .slice none 0 0, .bool false, .int .i64 0] (0, 0) _ rfl (by refine blk_put (cs := #[.int .i64 0, .int .i64 0, .slice none 0 0, .slice none 0 0, .bool false, .int .i64 0]) ?_ 5 _ rfl; refine blk_put (cs := #[.int .i64 0, .int .i64 0, .slice none 0 0, .slice none 0 0, .bool false, .int .i64 0]) ?_ 4 _ rfl; refine blk_put (cs := #[.int .i64 0, .int .i64 0, .slice none 0 0, .slice none 0 0, .bool false, .int .i64 0]) ?_ 3 _ rfl; refine blk_put (cs := #[.int .i64 0, .int .i64 0, .slice none 0 0, .slice none 0 0, .bool false, .int .i64 0]) ?_ 2 _ rfl; refine blk_put (cs := #[.int .i64 0, .int .i64 0, .slice none 0 0, .slice none 0 0, .bool false, .int .i64 0]) ?_ 1 _ rfl; refine blk_put (cs := #[.int .i64 0, .int .i64 0, .slice none 0 0, .slice none 0 0, .bool false, .int .i64 0]) ?_ 0 _ rfl; exact HZ7.out) Tryd.underlying28 rfl (by kernel_rfl)) rfl ⟨_, _, rfl, Kd.R_nil _ _ _ _ _, Kd.S_nil _ _ _ _ _, by refine below_set ?_ (Nat.le_refl _); refine below_set ?_ (Nat.le_refl _); refine below_set ?_ (Nat.le_refl _); refine below_set ?_ (Nat.le_refl _); refine below_set ?_ (Nat.le_refl _); refine below_set ?_ (Nat.le_refl _); exact HB7.out⟩
  clear HW
  have h := HH.out
  rw [if_neg c2] at h
  simp only [Option.some.injEq, Prod.mk.injEq] at h
  obtain ⟨rfl, rfl, rfl, rfl, rfl, rfl, rfl⟩ := h
  have c2b : ((rdOf ByteArray.empty l ((l.length : Int) - 1)).toList == ([] : List UInt8)) = false := beq_eq_false_iff_ne.mpr c2
  have c2c : ((rdOf ByteArray.empty l ((l.length : Int) - 1)).toList != ([] : List UInt8)) = true := bne_iff_ne.mpr c2
  have hc0 := blk_cell HBK.out 0
  have hc1 := blk_cell HBK.out 1
  have hc2 := blk_cell HBK.out 2
  have hc3 := blk_cell HBK.out 3
  have hc4 := blk_cell HBK.out 4
  have hc5 := blk_cell HBK.out 5
  have hf0 := blk_frozen HBK.out 0
  have hf1 := blk_frozen HBK.out 1
  have hf2 := blk_frozen HBK.out 2
  have hf3 := blk_frozen HBK.out 3
  have hf4 := blk_frozen HBK.out 4
  have hf5 := blk_frozen HBK.out 5
  clear HH c2 HV HCL HLC
  go_wp2
  exact bodyPost_ret (results_ct rfl _ _ w.heap.size 28 #[.int .i64 0, .int .i64 0, .slice none 0 0, .slice none 0 0, .bool false, .int .i64 0] (0, 0) _ rfl (by refine blk_put (cs := #[.int .i64 0, .int .i64 0, .slice none 0 0, .slice none 0 0, .bool false, .int .i64 0]) ?_ 5 _ rfl; refine blk_put (cs := #[.int .i64 0, .int .i64 0, .slice none 0 0, .slice none 0 0, .bool false, .int .i64 0]) ?_ 4 _ rfl; refine blk_put (cs := #[.int .i64 0, .int .i64 0, .slice none 0 0, .slice none 0 0, .bool false, .int .i64 0]) ?_ 3 _ rfl; refine blk_put (cs := #[.int .i64 0, .int .i64 0, .slice none 0 0, .slice none 0 0, .bool false, .int .i64 0]) ?_ 2 _ rfl; refine blk_put (cs := #[.int .i64 0, .int .i64 0, .slice none 0 0, .slice none 0 0, .bool false, .int .i64 0]) ?_ 1 _ rfl; refine blk_put (cs := #[.int .i64 0, .int .i64 0, .slice none 0 0, .slice none 0 0, .bool false, .int .i64 0]) ?_ 0 _ rfl; exact HBK.out) Tryd.underlying28 rfl (by kernel_rfl)) rfl ⟨_, _, rfl, Kd.R_nil _ _ _ _ _, Kd.S_nil _ _ _ _ _, by refine below_set ?_ (Nat.le_refl _); refine below_set ?_ (Nat.le_refl _); refine below_set ?_ (Nat.le_refl _); refine below_set ?_ (Nat.le_refl _); refine below_set ?_ (Nat.le_refl _); refine below_set ?_ (Nat.le_refl _); exact hb0.out⟩
def legationlaw17_awake.f (k : Nat)  : Option (Bool) := (result_Get.f k (⟨#[55, 10, 114, 111, 119, 115, 10, 63, 120, 9, 63, 121, 10, 60, 97, 62, 9, 10]⟩ : ByteArray)).bind fun bt263 => (if bt263.2.2.2.2.2.2 = 0 then (if bt263.1 = 7 then (if (bt263.2.2.2.1.length : Int) = 1 then (if 0 < (bt263.2.2.2.1.length : Int) then (if ((rd_L3 bt263.2.2.2.1 0).length : Int) = 2 then (if 0 < ((rd_L3 bt263.2.2.2.1 0).length : Int) then (some (((rd_T43 (rd_L3 bt263.2.2.2.1 0) 0).f1).toList == ([97] : List UInt8))) else (none)) else (some false)) else (none)) else (some false)) else (some false)) else (some false))
set_option maxHeartbeats 8000000 in
set_option maxRecDepth 100000 in
theorem legationlaw17_awake.calls (k : Nat)  (r : Bool) (w : World) (hG : Gl w) (h : legationlaw17_awake.f k  = some r) :
    Calls Tryd.prog 8 #[] w fun e w' => e = .returned (.bool r) ∧ Below w.heap.size w w' := by
  have hu28 := Tryd.underlying28
  have HGL := Aside0.mk hG
  clear hG
  have HB := Aside0.mk (Below.refl w.heap.size w)
  have H : ((result_Get.f k (⟨#[55, 10, 114, 111, 119, 115, 10, 63, 120, 9, 63, 121, 10, 60, 97, 62, 9, 10]⟩ : ByteArray)).bind fun bt263 => (if bt263.2.2.2.2.2.2 = 0 then (if bt263.1 = 7 then (if (bt263.2.2.2.1.length : Int) = 1 then (if 0 < (bt263.2.2.2.1.length : Int) then (if ((rd_L3 bt263.2.2.2.1 0).length : Int) = 2 then (if 0 < ((rd_L3 bt263.2.2.2.1 0).length : Int) then (some (((rd_T43 (rd_L3 bt263.2.2.2.1 0) 0).f1).toList == ([97] : List UInt8))) else (none)) else (some false)) else (none)) else (some false)) else (some false)) else (some false))) = some r := h
  clear h
  replace H := Option.bind_eq_some_iff.mp H
  obtain ⟨⟨t263, t264, t265, t268, t271, t272, t273⟩, A10, H⟩ := H
  replace H : (if t273 = 0 then (if t263 = 7 then (if (t268.length : Int) = 1 then (if 0 < (t268.length : Int) then (if ((rd_L3 t268 0).length : Int) = 2 then (if 0 < ((rd_L3 t268 0).length : Int) then (some (((rd_T43 (rd_L3 t268 0) 0).f1).toList == ([97] : List UInt8))) else (none)) else (some false)) else (none)) else (some false)) else (some false)) else (some false)) = some r := H
  have A1 := Aside0.mk A10
  clear A10
  by_cases c2 : t273 = 0
  · rw [if_pos c2] at H
    have c2b0 : (t273 == 0) = true := beq_iff_eq.mpr c2
    have c2b1 : (t273 != 0) = false := bne_eq_false_iff_eq.mpr c2
    clear c2
    by_cases c3 : t263 = 7
    · rw [if_pos c3] at H
      have c3b0 : (t263 == 7) = true := beq_iff_eq.mpr c3
      have c3b1 : (t263 != 7) = false := bne_eq_false_iff_eq.mpr c3
      clear c3
      by_cases c4 : (t268.length : Int) = 1
      · rw [if_pos c4] at H
        have c4b0 : ((t268.length : Int) == 1) = true := beq_iff_eq.mpr c4
        have c4b1 : ((t268.length : Int) != 1) = false := bne_eq_false_iff_eq.mpr c4
        clear c4
        by_cases c5 : 0 < (t268.length : Int)
        · rw [if_pos c5] at H
          have c5b0 : decide (0 < (t268.length : Int)) = true := decide_eq_true c5
          have c5b1 : decide (0 < t268.length) = true := decide_eq_true (by omega)
          clear c5
          by_cases c6 : ((rd_L3 t268 0).length : Int) = 2
          · rw [if_pos c6] at H
            have c6b0 : (((rd_L3 t268 0).length : Int) == 2) = true := beq_iff_eq.mpr c6
            have c6b1 : (((rd_L3 t268 0).length : Int) != 2) = false := bne_eq_false_iff_eq.mpr c6
            clear c6
            by_cases c7 : 0 < ((rd_L3 t268 0).length : Int)
            · rw [if_pos c7] at H
              have c7b0 : decide (0 < ((rd_L3 t268 0).length : Int)) = true := decide_eq_true c7
              have c7b1 : decide (0 < (rd_L3 t268 0).length) = true := decide_eq_true (by omega)
              clear c7
              obtain rfl := Option.some.inj H
              go_enter Tryd.func8, Tryd.ntmps8
              go_wp2_with (first | ((with_reducible refine gate_callee (f := 6) rfl ?_); refine goesL_ (some 4) rfl rfl Tryd.func6 (by kernel_rfl) rfl #[.string (⟨#[55, 10, 114, 111, 119, 115, 10, 63, 120, 9, 63, 121, 10, 60, 97, 62, 9, 10]⟩ : ByteArray)] rfl (by (try simp only [List.map_toArray, List.map_cons, List.map_nil]); rfl) ?_; (with_reducible refine (result_Get.calls k (⟨#[55, 10, 114, 111, 119, 115, 10, 63, 120, 9, 63, 121, 10, 60, 97, 62, 9, 10]⟩ : ByteArray) t263 t264 t265 t268 t271 t272 t273 _ (Gl.below HGL.out (by repeat ((with_reducible exact HB.out)))) A1.out).mono ?_); rintro e w8 ⟨v266, v269, rfl, ho0, ho1, hb⟩; refine ⟨_, rfl, ?_⟩; have n0_ := Aside0.mk (Kd.R_lower ho0 (below_size (by repeat ((with_reducible exact HB.out))))); have n1_ := Aside0.mk (Kd.S_lower ho1 (below_size (by repeat ((with_reducible exact HB.out))))); have n2_ := Aside0.mk (below_step (by repeat ((with_reducible exact HB.out))) hb); clear HB; have HO267 := n0_; have HO270 := n1_; have HB := n2_; clear n0_ n1_ n2_; (try clear hb); (try clear ho0); (try clear ho1)) | ((with_reducible refine gate_dst (N := 1) rfl ?_); (try (refine gate_guard (by rfl) ?_; dsimp only)); refine box_event ?hg (N := 1) ?hd (cs := #[.int .i64 0, .int .i64 0, .slice none 0 0, .slice none 0 0, .bool false, .int .i64 0]) (t := 28) ?hr ?_; (case hd => rfl); (case hg => rfl); (case hr => (go_simp; done)); intro gb274 hg w9 hbox hb; have n0_ := Aside0.mk (Kd.R_below (by (with_reducible repeat (fail)); exact HO267.out) hb); have n1_ := Aside0.mk (Kd.S_below (by (with_reducible repeat (fail)); exact HO270.out) hb); have n2_ := Aside0.mk (below_step (by repeat ((with_reducible exact HB.out))) hb); have n3_ := Aside0.mk (hbox); have n4_ := Aside0.mk ((by rw [hg]; exact (below_size (by repeat ((with_reducible exact HB.out)))) : w.heap.size ≤ gb274)); have n5_ := Aside0.mk ((by rw [hg]; exact (below_size (by repeat ((with_reducible exact HB.out)))) : w.heap.size ≤ gb274)); clear HO267; clear HO270; clear HB; have HO267 := n0_; have HO270 := n1_; have HB := n2_; have BK274 := n3_; have GW274 := n4_; have GE274 := n5_; clear n0_ n1_ n2_ n3_ n4_ n5_; clear hb hbox hg; have hcz10_0 : w9.cell? ⟨gb274, 0, none⟩ = some (.int .i64 0) := (blk_cell BK274.out 0).trans rfl; have hcz10_1 : w9.cell? ⟨gb274, 1, none⟩ = some (.int .i64 0) := (blk_cell BK274.out 1).trans rfl; have hcz10_2 : w9.cell? ⟨gb274, 2, none⟩ = some (.slice none 0 0) := (blk_cell BK274.out 2).trans rfl; have hcz10_3 : w9.cell? ⟨gb274, 3, none⟩ = some (.slice none 0 0) := (blk_cell BK274.out 3).trans rfl; have hcz10_4 : w9.cell? ⟨gb274, 4, none⟩ = some (.bool false) := (blk_cell BK274.out 4).trans rfl; have hcz10_5 : w9.cell? ⟨gb274, 5, none⟩ = some (.int .i64 0) := (blk_cell BK274.out 5).trans rfl; have hfz10_0 := blk_frozen BK274.out 0; have hfz10_1 := blk_frozen BK274.out 1; have hfz10_2 := blk_frozen BK274.out 2; have hfz10_3 := blk_frozen BK274.out 3; have hfz10_4 := blk_frozen BK274.out 4; have hfz10_5 := blk_frozen BK274.out 5; obtain ⟨Ao11, co11, eo11⟩ := Kd.R_slice HO267.out; subst eo11; obtain ⟨Ao12, co12, eo12⟩ := Kd.S_slice HO270.out; subst eo12) | ((with_reducible refine gate_store (t := 28) (p := 1) rfl ?_); refine store_event (t := 28) (p := 1) (v := ?vo_w13) (w1 := ((((((w9.setCell ⟨gb274, 0, none⟩ (.int .i64 t263)).setCell ⟨gb274, 1, none⟩ (.int .i64 t264)).setCell ⟨gb274, 2, none⟩ (.slice Ao11 t265.length co11)).setCell ⟨gb274, 3, none⟩ (.slice Ao12 t268.length co12)).setCell ⟨gb274, 4, none⟩ (.bool t271)).setCell ⟨gb274, 5, none⟩ (.int .i64 t272))) ?hg ?ho ?hn ?hr ?_; (case ho => rfl); (case hg => rfl); (case hn => rfl); (case hr => (go_simp; done)); intro w13 hw; have n0_ : Aside0 (Kd.R Kd.string 9 w13 w.heap.size (fun _ => True) (.slice Ao11 t265.length co11) t265) := ⟨(by rw [hw]; exact (by (with_reducible repeat (fail)); exact Kd.R_mono (Kd.R_far (p := ⟨gb274, 5, none⟩) (Kd.R_far (p := ⟨gb274, 4, none⟩) (Kd.R_far (p := ⟨gb274, 3, none⟩) (Kd.R_far (p := ⟨gb274, 2, none⟩) (Kd.R_far (p := ⟨gb274, 1, none⟩) (Kd.R_far (p := ⟨gb274, 0, none⟩) (Kd.R_types HO267.out BK274.out (by decide)) (fun _ hk => hk.2) (.int .i64 t263)) (fun _ hk => hk.2) (.int .i64 t264)) (fun _ hk => hk.2) (.slice Ao11 t265.length co11)) (fun _ hk => hk.2) (.slice Ao12 t268.length co12)) (fun _ hk => hk.2) (.bool t271)) (fun _ hk => hk.2) (.int .i64 t272)) (fun _ hk => trivial)))⟩; have n1_ : Aside0 (Kd.S (Kd.slice 43 k43) 40 w13 w.heap.size (fun _ => True) (.slice Ao12 t268.length co12) t268) := ⟨(by rw [hw]; exact (by (with_reducible repeat (fail)); exact Kd.S_mono (Kd.S_far (p := ⟨gb274, 5, none⟩) (Kd.S_far (p := ⟨gb274, 4, none⟩) (Kd.S_far (p := ⟨gb274, 3, none⟩) (Kd.S_far (p := ⟨gb274, 2, none⟩) (Kd.S_far (p := ⟨gb274, 1, none⟩) (Kd.S_far (p := ⟨gb274, 0, none⟩) (Kd.S_types HO270.out BK274.out (by decide)) (fun _ hk => hk.2) (.int .i64 t263)) (fun _ hk => hk.2) (.int .i64 t264)) (fun _ hk => hk.2) (.slice Ao11 t265.length co11)) (fun _ hk => hk.2) (.slice Ao12 t268.length co12)) (fun _ hk => hk.2) (.bool t271)) (fun _ hk => hk.2) (.int .i64 t272)) (fun _ hk => trivial)))⟩; have n2_ : Aside0 (w13.heap[gb274]? = some (.cells #[.int .i64 t263, .int .i64 t264, .slice Ao11 t265.length co11, .slice Ao12 t268.length co12, .bool t271, .int .i64 t272] 28 (0, 0))) := ⟨(by rw [hw]; exact (by (with_reducible repeat (fail)); refine blk_put (cs := #[.int .i64 t263, .int .i64 t264, .slice Ao11 t265.length co11, .slice Ao12 t268.length co12, .bool t271, .int .i64 0]) ?_ 5 _ rfl; (with_reducible repeat (fail)); refine blk_put (cs := #[.int .i64 t263, .int .i64 t264, .slice Ao11 t265.length co11, .slice Ao12 t268.length co12, .bool false, .int .i64 0]) ?_ 4 _ rfl; (with_reducible repeat (fail)); refine blk_put (cs := #[.int .i64 t263, .int .i64 t264, .slice Ao11 t265.length co11, .slice none 0 0, .bool false, .int .i64 0]) ?_ 3 _ rfl; (with_reducible repeat (fail)); refine blk_put (cs := #[.int .i64 t263, .int .i64 t264, .slice none 0 0, .slice none 0 0, .bool false, .int .i64 0]) ?_ 2 _ rfl; (with_reducible repeat (fail)); refine blk_put (cs := #[.int .i64 t263, .int .i64 0, .slice none 0 0, .slice none 0 0, .bool false, .int .i64 0]) ?_ 1 _ rfl; (with_reducible repeat (fail)); refine blk_put (cs := #[.int .i64 0, .int .i64 0, .slice none 0 0, .slice none 0 0, .bool false, .int .i64 0]) ?_ 0 _ rfl; (with_reducible repeat (fail)); exact BK274.out))⟩; have n3_ : Aside0 (Below w.heap.size w w13) := ⟨(by rw [hw]; exact (by repeat ((with_reducible first | exact HB.out | refine below_set ?_ GE274.out))))⟩; clear hw; clear HO267; clear HO270; clear BK274; clear HB; have HO267 := n0_; have HO270 := n1_; have BK274 := n2_; have HB := n3_; clear n0_ n1_ n2_ n3_; have hcz14_0 : w13.cell? ⟨gb274, 0, none⟩ = some (.int .i64 t263) := (blk_cell BK274.out 0).trans rfl; have hcz14_1 : w13.cell? ⟨gb274, 1, none⟩ = some (.int .i64 t264) := (blk_cell BK274.out 1).trans rfl; have hcz14_2 : w13.cell? ⟨gb274, 2, none⟩ = some (.slice Ao11 t265.length co11) := (blk_cell BK274.out 2).trans rfl; have hcz14_3 : w13.cell? ⟨gb274, 3, none⟩ = some (.slice Ao12 t268.length co12) := (blk_cell BK274.out 3).trans rfl; have hcz14_4 : w13.cell? ⟨gb274, 4, none⟩ = some (.bool t271) := (blk_cell BK274.out 4).trans rfl; have hcz14_5 : w13.cell? ⟨gb274, 5, none⟩ = some (.int .i64 t272) := (blk_cell BK274.out 5).trans rfl; have hfz14_0 := blk_frozen BK274.out 0; have hfz14_1 := blk_frozen BK274.out 1; have hfz14_2 := blk_frozen BK274.out 2; have hfz14_3 := blk_frozen BK274.out 3; have hfz14_4 := blk_frozen BK274.out 4; have hfz14_5 := blk_frozen BK274.out 5; have p275 : 0 ≤ (0 : Int) := (by omega); have q275 : 0 < (t268.length : Int) := of_decide_eq_true (by (with_reducible assumption)); obtain ⟨ad275, A275_0, c275_0, e275, hx275_0, hl275_0, hi275_0⟩ := at_L3 (Kd.S_reads' HO270.out).2.2 0 p275 q275; cases e275; obtain ⟨ce275, hce275, hMe275, hcc275⟩ := Kd.S_get HO270.out [] 0 p275 (by exact q275); obtain ⟨ve275_0, rfl, ge275_0⟩ := hMe275; have hv275_0 := hcc275 0 _ rfl; rw [Nat.add_zero, show ((Kd.slice 43 k43)).sz = 1 from rfl, Nat.mul_one] at hv275_0; replace hv275_0 := Option.some.inj (hv275_0.symm.trans hx275_0); rw [hv275_0] at ge275_0; have HL275_0 := Aside0.mk (show Kd.R k43 43 _ _ _ _ (rd_L3 t268 0) from ge275_0); clear hv275_0 ge275_0; clear hcc275 hce275; have qi275 : (0 < t268.length) = True := eq_true (by omega); (try rw [show ((0 : Int)).toNat = 0 from rfl] at hx275_0); (try rw [Addr.add_zero'] at hx275_0); have HR275_0 := Aside0.mk hi275_0; have HC275_0 := Aside0.mk hl275_0; clear hi275_0 hl275_0; replace p275 := eq_true p275; replace q275 := eq_true q275; have p276 : 0 ≤ (0 : Int) := (by omega); have q276 : 0 < (t268.length : Int) := of_decide_eq_true (by (with_reducible assumption)); obtain ⟨ad276, A276_0, c276_0, e276, hx276_0, hl276_0, hi276_0⟩ := at_L3 (Kd.S_reads' HO270.out).2.2 0 p276 q276; obtain rfl : ad275 = ad276 := (by injection e276); obtain ⟨ce276, hce276, hMe276, hcc276⟩ := Kd.S_get HO270.out [] 0 p276 (by exact q276); obtain ⟨ve276_0, rfl, ge276_0⟩ := hMe276; have hv276_0 := hcc276 0 _ rfl; rw [Nat.add_zero, show ((Kd.slice 43 k43)).sz = 1 from rfl, Nat.mul_one] at hv276_0; replace hv276_0 := Option.some.inj (hv276_0.symm.trans hx276_0); rw [hv276_0] at ge276_0; have HL276_0 := Aside0.mk (show Kd.R k43 43 _ _ _ _ (rd_L3 t268 0) from ge276_0); clear hv276_0 ge276_0; clear hcc276 hce276; have qi276 : (0 < t268.length) = True := eq_true (by omega); (try rw [show ((0 : Int)).toNat = 0 from rfl] at hx276_0); (try rw [Addr.add_zero'] at hx276_0); have HR276_0 := Aside0.mk hi276_0; have HC276_0 := Aside0.mk hl276_0; clear hi276_0 hl276_0; replace p276 := eq_true p276; replace q276 := eq_true q276; have ea_ := Option.some.inj (hx275_0.symm.trans hx276_0); injection ea_ with ea_ en_ ec_; subst ea_; subst ec_; clear en_; have p277 : 0 ≤ (0 : Int) := (by omega); have q277 : 0 < ((rd_L3 t268 0).length : Int) := of_decide_eq_true (by (with_reducible assumption)); obtain ⟨ad277, e277, hx277_0, hx277_1, hx277_2, hx277_3⟩ := at_T43 (by repeat ((with_reducible exact HR276_0.out))) 0 p277 q277; cases e277; have qi277 : (0 < (rd_L3 t268 0).length) = True := eq_true (by omega); (try rw [show ((0 : Int)).toNat = 0 from rfl] at hx277_0); (try rw [show 0 * 4 = 0 from rfl] at hx277_0); (try rw [Addr.add_zero'] at hx277_0); (try rw [show ((0 : Int)).toNat = 0 from rfl] at hx277_1); (try rw [show 0 * 4 = 0 from rfl] at hx277_1); (try rw [Addr.add_zero'] at hx277_1); (try rw [show ((0 : Int)).toNat = 0 from rfl] at hx277_2); (try rw [show 0 * 4 = 0 from rfl] at hx277_2); (try rw [Addr.add_zero'] at hx277_2); (try rw [show ((0 : Int)).toNat = 0 from rfl] at hx277_3); (try rw [show 0 * 4 = 0 from rfl] at hx277_3); (try rw [Addr.add_zero'] at hx277_3); replace p277 := eq_true p277; replace q277 := eq_true q277))
              go_ret
              exact ⟨by rfl, by repeat ((with_reducible exact HB.out))⟩
            rw [if_neg c7] at H
            exact absurd H (by simp)
          rw [if_neg c6] at H
          have c6b0 : (((rd_L3 t268 0).length : Int) == 2) = false := beq_eq_false_iff_ne.mpr c6
          have c6b1 : (((rd_L3 t268 0).length : Int) != 2) = true := bne_iff_ne.mpr c6
          obtain rfl := Option.some.inj H
          go_enter Tryd.func8, Tryd.ntmps8
          go_wp2_with (first | ((with_reducible refine gate_callee (f := 6) rfl ?_); refine goesL_ (some 4) rfl rfl Tryd.func6 (by kernel_rfl) rfl #[.string (⟨#[55, 10, 114, 111, 119, 115, 10, 63, 120, 9, 63, 121, 10, 60, 97, 62, 9, 10]⟩ : ByteArray)] rfl (by (try simp only [List.map_toArray, List.map_cons, List.map_nil]); rfl) ?_; (with_reducible refine (result_Get.calls k (⟨#[55, 10, 114, 111, 119, 115, 10, 63, 120, 9, 63, 121, 10, 60, 97, 62, 9, 10]⟩ : ByteArray) t263 t264 t265 t268 t271 t272 t273 _ (Gl.below HGL.out (by repeat ((with_reducible exact HB.out)))) A1.out).mono ?_); rintro e w15 ⟨v266, v269, rfl, ho0, ho1, hb⟩; refine ⟨_, rfl, ?_⟩; have n0_ := Aside0.mk (Kd.R_lower ho0 (below_size (by repeat ((with_reducible exact HB.out))))); have n1_ := Aside0.mk (Kd.S_lower ho1 (below_size (by repeat ((with_reducible exact HB.out))))); have n2_ := Aside0.mk (below_step (by repeat ((with_reducible exact HB.out))) hb); clear HB; have HO267 := n0_; have HO270 := n1_; have HB := n2_; clear n0_ n1_ n2_; (try clear hb); (try clear ho0); (try clear ho1)) | ((with_reducible refine gate_dst (N := 1) rfl ?_); (try (refine gate_guard (by rfl) ?_; dsimp only)); refine box_event ?hg (N := 1) ?hd (cs := #[.int .i64 0, .int .i64 0, .slice none 0 0, .slice none 0 0, .bool false, .int .i64 0]) (t := 28) ?hr ?_; (case hd => rfl); (case hg => rfl); (case hr => (go_simp; done)); intro gb274 hg w16 hbox hb; have n0_ := Aside0.mk (Kd.R_below (by (with_reducible repeat (fail)); exact HO267.out) hb); have n1_ := Aside0.mk (Kd.S_below (by (with_reducible repeat (fail)); exact HO270.out) hb); have n2_ := Aside0.mk (below_step (by repeat ((with_reducible exact HB.out))) hb); have n3_ := Aside0.mk (hbox); have n4_ := Aside0.mk ((by rw [hg]; exact (below_size (by repeat ((with_reducible exact HB.out)))) : w.heap.size ≤ gb274)); have n5_ := Aside0.mk ((by rw [hg]; exact (below_size (by repeat ((with_reducible exact HB.out)))) : w.heap.size ≤ gb274)); clear HO267; clear HO270; clear HB; have HO267 := n0_; have HO270 := n1_; have HB := n2_; have BK274 := n3_; have GW274 := n4_; have GE274 := n5_; clear n0_ n1_ n2_ n3_ n4_ n5_; clear hb hbox hg; have hcz17_0 : w16.cell? ⟨gb274, 0, none⟩ = some (.int .i64 0) := (blk_cell BK274.out 0).trans rfl; have hcz17_1 : w16.cell? ⟨gb274, 1, none⟩ = some (.int .i64 0) := (blk_cell BK274.out 1).trans rfl; have hcz17_2 : w16.cell? ⟨gb274, 2, none⟩ = some (.slice none 0 0) := (blk_cell BK274.out 2).trans rfl; have hcz17_3 : w16.cell? ⟨gb274, 3, none⟩ = some (.slice none 0 0) := (blk_cell BK274.out 3).trans rfl; have hcz17_4 : w16.cell? ⟨gb274, 4, none⟩ = some (.bool false) := (blk_cell BK274.out 4).trans rfl; have hcz17_5 : w16.cell? ⟨gb274, 5, none⟩ = some (.int .i64 0) := (blk_cell BK274.out 5).trans rfl; have hfz17_0 := blk_frozen BK274.out 0; have hfz17_1 := blk_frozen BK274.out 1; have hfz17_2 := blk_frozen BK274.out 2; have hfz17_3 := blk_frozen BK274.out 3; have hfz17_4 := blk_frozen BK274.out 4; have hfz17_5 := blk_frozen BK274.out 5; obtain ⟨Ao18, co18, eo18⟩ := Kd.R_slice HO267.out; subst eo18; obtain ⟨Ao19, co19, eo19⟩ := Kd.S_slice HO270.out; subst eo19) | ((with_reducible refine gate_store (t := 28) (p := 1) rfl ?_); refine store_event (t := 28) (p := 1) (v := ?vo_w20) (w1 := ((((((w16.setCell ⟨gb274, 0, none⟩ (.int .i64 t263)).setCell ⟨gb274, 1, none⟩ (.int .i64 t264)).setCell ⟨gb274, 2, none⟩ (.slice Ao18 t265.length co18)).setCell ⟨gb274, 3, none⟩ (.slice Ao19 t268.length co19)).setCell ⟨gb274, 4, none⟩ (.bool t271)).setCell ⟨gb274, 5, none⟩ (.int .i64 t272))) ?hg ?ho ?hn ?hr ?_; (case ho => rfl); (case hg => rfl); (case hn => rfl); (case hr => (go_simp; done)); intro w20 hw; have n0_ : Aside0 (Kd.R Kd.string 9 w20 w.heap.size (fun _ => True) (.slice Ao18 t265.length co18) t265) := ⟨(by rw [hw]; exact (by (with_reducible repeat (fail)); exact Kd.R_mono (Kd.R_far (p := ⟨gb274, 5, none⟩) (Kd.R_far (p := ⟨gb274, 4, none⟩) (Kd.R_far (p := ⟨gb274, 3, none⟩) (Kd.R_far (p := ⟨gb274, 2, none⟩) (Kd.R_far (p := ⟨gb274, 1, none⟩) (Kd.R_far (p := ⟨gb274, 0, none⟩) (Kd.R_types HO267.out BK274.out (by decide)) (fun _ hk => hk.2) (.int .i64 t263)) (fun _ hk => hk.2) (.int .i64 t264)) (fun _ hk => hk.2) (.slice Ao18 t265.length co18)) (fun _ hk => hk.2) (.slice Ao19 t268.length co19)) (fun _ hk => hk.2) (.bool t271)) (fun _ hk => hk.2) (.int .i64 t272)) (fun _ hk => trivial)))⟩; have n1_ : Aside0 (Kd.S (Kd.slice 43 k43) 40 w20 w.heap.size (fun _ => True) (.slice Ao19 t268.length co19) t268) := ⟨(by rw [hw]; exact (by (with_reducible repeat (fail)); exact Kd.S_mono (Kd.S_far (p := ⟨gb274, 5, none⟩) (Kd.S_far (p := ⟨gb274, 4, none⟩) (Kd.S_far (p := ⟨gb274, 3, none⟩) (Kd.S_far (p := ⟨gb274, 2, none⟩) (Kd.S_far (p := ⟨gb274, 1, none⟩) (Kd.S_far (p := ⟨gb274, 0, none⟩) (Kd.S_types HO270.out BK274.out (by decide)) (fun _ hk => hk.2) (.int .i64 t263)) (fun _ hk => hk.2) (.int .i64 t264)) (fun _ hk => hk.2) (.slice Ao18 t265.length co18)) (fun _ hk => hk.2) (.slice Ao19 t268.length co19)) (fun _ hk => hk.2) (.bool t271)) (fun _ hk => hk.2) (.int .i64 t272)) (fun _ hk => trivial)))⟩; have n2_ : Aside0 (w20.heap[gb274]? = some (.cells #[.int .i64 t263, .int .i64 t264, .slice Ao18 t265.length co18, .slice Ao19 t268.length co19, .bool t271, .int .i64 t272] 28 (0, 0))) := ⟨(by rw [hw]; exact (by (with_reducible repeat (fail)); refine blk_put (cs := #[.int .i64 t263, .int .i64 t264, .slice Ao18 t265.length co18, .slice Ao19 t268.length co19, .bool t271, .int .i64 0]) ?_ 5 _ rfl; (with_reducible repeat (fail)); refine blk_put (cs := #[.int .i64 t263, .int .i64 t264, .slice Ao18 t265.length co18, .slice Ao19 t268.length co19, .bool false, .int .i64 0]) ?_ 4 _ rfl; (with_reducible repeat (fail)); refine blk_put (cs := #[.int .i64 t263, .int .i64 t264, .slice Ao18 t265.length co18, .slice none 0 0, .bool false, .int .i64 0]) ?_ 3 _ rfl; (with_reducible repeat (fail)); refine blk_put (cs := #[.int .i64 t263, .int .i64 t264, .slice none 0 0, .slice none 0 0, .bool false, .int .i64 0]) ?_ 2 _ rfl; (with_reducible repeat (fail)); refine blk_put (cs := #[.int .i64 t263, .int .i64 0, .slice none 0 0, .slice none 0 0, .bool false, .int .i64 0]) ?_ 1 _ rfl; (with_reducible repeat (fail)); refine blk_put (cs := #[.int .i64 0, .int .i64 0, .slice none 0 0, .slice none 0 0, .bool false, .int .i64 0]) ?_ 0 _ rfl; (with_reducible repeat (fail)); exact BK274.out))⟩; have n3_ : Aside0 (Below w.heap.size w w20) := ⟨(by rw [hw]; exact (by repeat ((with_reducible first | exact HB.out | refine below_set ?_ GE274.out))))⟩; clear hw; clear HO267; clear HO270; clear BK274; clear HB; have HO267 := n0_; have HO270 := n1_; have BK274 := n2_; have HB := n3_; clear n0_ n1_ n2_ n3_; have hcz21_0 : w20.cell? ⟨gb274, 0, none⟩ = some (.int .i64 t263) := (blk_cell BK274.out 0).trans rfl; have hcz21_1 : w20.cell? ⟨gb274, 1, none⟩ = some (.int .i64 t264) := (blk_cell BK274.out 1).trans rfl; have hcz21_2 : w20.cell? ⟨gb274, 2, none⟩ = some (.slice Ao18 t265.length co18) := (blk_cell BK274.out 2).trans rfl; have hcz21_3 : w20.cell? ⟨gb274, 3, none⟩ = some (.slice Ao19 t268.length co19) := (blk_cell BK274.out 3).trans rfl; have hcz21_4 : w20.cell? ⟨gb274, 4, none⟩ = some (.bool t271) := (blk_cell BK274.out 4).trans rfl; have hcz21_5 : w20.cell? ⟨gb274, 5, none⟩ = some (.int .i64 t272) := (blk_cell BK274.out 5).trans rfl; have hfz21_0 := blk_frozen BK274.out 0; have hfz21_1 := blk_frozen BK274.out 1; have hfz21_2 := blk_frozen BK274.out 2; have hfz21_3 := blk_frozen BK274.out 3; have hfz21_4 := blk_frozen BK274.out 4; have hfz21_5 := blk_frozen BK274.out 5; have p275 : 0 ≤ (0 : Int) := (by omega); have q275 : 0 < (t268.length : Int) := of_decide_eq_true (by (with_reducible assumption)); obtain ⟨ad275, A275_0, c275_0, e275, hx275_0, hl275_0, hi275_0⟩ := at_L3 (Kd.S_reads' HO270.out).2.2 0 p275 q275; cases e275; obtain ⟨ce275, hce275, hMe275, hcc275⟩ := Kd.S_get HO270.out [] 0 p275 (by exact q275); obtain ⟨ve275_0, rfl, ge275_0⟩ := hMe275; have hv275_0 := hcc275 0 _ rfl; rw [Nat.add_zero, show ((Kd.slice 43 k43)).sz = 1 from rfl, Nat.mul_one] at hv275_0; replace hv275_0 := Option.some.inj (hv275_0.symm.trans hx275_0); rw [hv275_0] at ge275_0; have HL275_0 := Aside0.mk (show Kd.R k43 43 _ _ _ _ (rd_L3 t268 0) from ge275_0); clear hv275_0 ge275_0; clear hcc275 hce275; have qi275 : (0 < t268.length) = True := eq_true (by omega); (try rw [show ((0 : Int)).toNat = 0 from rfl] at hx275_0); (try rw [Addr.add_zero'] at hx275_0); have HR275_0 := Aside0.mk hi275_0; have HC275_0 := Aside0.mk hl275_0; clear hi275_0 hl275_0; replace p275 := eq_true p275; replace q275 := eq_true q275))
          go_ret
          exact ⟨by rfl, by repeat ((with_reducible exact HB.out))⟩
        rw [if_neg c5] at H
        exact absurd H (by simp)
      rw [if_neg c4] at H
      have c4b0 : ((t268.length : Int) == 1) = false := beq_eq_false_iff_ne.mpr c4
      have c4b1 : ((t268.length : Int) != 1) = true := bne_iff_ne.mpr c4
      obtain rfl := Option.some.inj H
      go_enter Tryd.func8, Tryd.ntmps8
      go_wp2_with (first | ((with_reducible refine gate_callee (f := 6) rfl ?_); refine goesL_ (some 4) rfl rfl Tryd.func6 (by kernel_rfl) rfl #[.string (⟨#[55, 10, 114, 111, 119, 115, 10, 63, 120, 9, 63, 121, 10, 60, 97, 62, 9, 10]⟩ : ByteArray)] rfl (by (try simp only [List.map_toArray, List.map_cons, List.map_nil]); rfl) ?_; (with_reducible refine (result_Get.calls k (⟨#[55, 10, 114, 111, 119, 115, 10, 63, 120, 9, 63, 121, 10, 60, 97, 62, 9, 10]⟩ : ByteArray) t263 t264 t265 t268 t271 t272 t273 _ (Gl.below HGL.out (by repeat ((with_reducible exact HB.out)))) A1.out).mono ?_); rintro e w22 ⟨v266, v269, rfl, ho0, ho1, hb⟩; refine ⟨_, rfl, ?_⟩; have n0_ := Aside0.mk (Kd.R_lower ho0 (below_size (by repeat ((with_reducible exact HB.out))))); have n1_ := Aside0.mk (Kd.S_lower ho1 (below_size (by repeat ((with_reducible exact HB.out))))); have n2_ := Aside0.mk (below_step (by repeat ((with_reducible exact HB.out))) hb); clear HB; have HO267 := n0_; have HO270 := n1_; have HB := n2_; clear n0_ n1_ n2_; (try clear hb); (try clear ho0); (try clear ho1)) | ((with_reducible refine gate_dst (N := 1) rfl ?_); (try (refine gate_guard (by rfl) ?_; dsimp only)); refine box_event ?hg (N := 1) ?hd (cs := #[.int .i64 0, .int .i64 0, .slice none 0 0, .slice none 0 0, .bool false, .int .i64 0]) (t := 28) ?hr ?_; (case hd => rfl); (case hg => rfl); (case hr => (go_simp; done)); intro gb274 hg w23 hbox hb; have n0_ := Aside0.mk (Kd.R_below (by (with_reducible repeat (fail)); exact HO267.out) hb); have n1_ := Aside0.mk (Kd.S_below (by (with_reducible repeat (fail)); exact HO270.out) hb); have n2_ := Aside0.mk (below_step (by repeat ((with_reducible exact HB.out))) hb); have n3_ := Aside0.mk (hbox); have n4_ := Aside0.mk ((by rw [hg]; exact (below_size (by repeat ((with_reducible exact HB.out)))) : w.heap.size ≤ gb274)); have n5_ := Aside0.mk ((by rw [hg]; exact (below_size (by repeat ((with_reducible exact HB.out)))) : w.heap.size ≤ gb274)); clear HO267; clear HO270; clear HB; have HO267 := n0_; have HO270 := n1_; have HB := n2_; have BK274 := n3_; have GW274 := n4_; have GE274 := n5_; clear n0_ n1_ n2_ n3_ n4_ n5_; clear hb hbox hg; have hcz24_0 : w23.cell? ⟨gb274, 0, none⟩ = some (.int .i64 0) := (blk_cell BK274.out 0).trans rfl; have hcz24_1 : w23.cell? ⟨gb274, 1, none⟩ = some (.int .i64 0) := (blk_cell BK274.out 1).trans rfl; have hcz24_2 : w23.cell? ⟨gb274, 2, none⟩ = some (.slice none 0 0) := (blk_cell BK274.out 2).trans rfl; have hcz24_3 : w23.cell? ⟨gb274, 3, none⟩ = some (.slice none 0 0) := (blk_cell BK274.out 3).trans rfl; have hcz24_4 : w23.cell? ⟨gb274, 4, none⟩ = some (.bool false) := (blk_cell BK274.out 4).trans rfl; have hcz24_5 : w23.cell? ⟨gb274, 5, none⟩ = some (.int .i64 0) := (blk_cell BK274.out 5).trans rfl; have hfz24_0 := blk_frozen BK274.out 0; have hfz24_1 := blk_frozen BK274.out 1; have hfz24_2 := blk_frozen BK274.out 2; have hfz24_3 := blk_frozen BK274.out 3; have hfz24_4 := blk_frozen BK274.out 4; have hfz24_5 := blk_frozen BK274.out 5; obtain ⟨Ao25, co25, eo25⟩ := Kd.R_slice HO267.out; subst eo25; obtain ⟨Ao26, co26, eo26⟩ := Kd.S_slice HO270.out; subst eo26))
      go_ret
      exact ⟨by rfl, by repeat ((with_reducible first | exact HB.out | refine below_set ?_ GE274.out))⟩
    rw [if_neg c3] at H
    have c3b0 : (t263 == 7) = false := beq_eq_false_iff_ne.mpr c3
    have c3b1 : (t263 != 7) = true := bne_iff_ne.mpr c3
    obtain rfl := Option.some.inj H
    go_enter Tryd.func8, Tryd.ntmps8
    go_wp2_with (first | ((with_reducible refine gate_callee (f := 6) rfl ?_); refine goesL_ (some 4) rfl rfl Tryd.func6 (by kernel_rfl) rfl #[.string (⟨#[55, 10, 114, 111, 119, 115, 10, 63, 120, 9, 63, 121, 10, 60, 97, 62, 9, 10]⟩ : ByteArray)] rfl (by (try simp only [List.map_toArray, List.map_cons, List.map_nil]); rfl) ?_; (with_reducible refine (result_Get.calls k (⟨#[55, 10, 114, 111, 119, 115, 10, 63, 120, 9, 63, 121, 10, 60, 97, 62, 9, 10]⟩ : ByteArray) t263 t264 t265 t268 t271 t272 t273 _ (Gl.below HGL.out (by repeat ((with_reducible exact HB.out)))) A1.out).mono ?_); rintro e w27 ⟨v266, v269, rfl, ho0, ho1, hb⟩; refine ⟨_, rfl, ?_⟩; have n0_ := Aside0.mk (Kd.R_lower ho0 (below_size (by repeat ((with_reducible exact HB.out))))); have n1_ := Aside0.mk (Kd.S_lower ho1 (below_size (by repeat ((with_reducible exact HB.out))))); have n2_ := Aside0.mk (below_step (by repeat ((with_reducible exact HB.out))) hb); clear HB; have HO267 := n0_; have HO270 := n1_; have HB := n2_; clear n0_ n1_ n2_; (try clear hb); (try clear ho0); (try clear ho1)) | ((with_reducible refine gate_dst (N := 1) rfl ?_); (try (refine gate_guard (by rfl) ?_; dsimp only)); refine box_event ?hg (N := 1) ?hd (cs := #[.int .i64 0, .int .i64 0, .slice none 0 0, .slice none 0 0, .bool false, .int .i64 0]) (t := 28) ?hr ?_; (case hd => rfl); (case hg => rfl); (case hr => (go_simp; done)); intro gb274 hg w28 hbox hb; have n0_ := Aside0.mk (Kd.R_below (by (with_reducible repeat (fail)); exact HO267.out) hb); have n1_ := Aside0.mk (Kd.S_below (by (with_reducible repeat (fail)); exact HO270.out) hb); have n2_ := Aside0.mk (below_step (by repeat ((with_reducible exact HB.out))) hb); have n3_ := Aside0.mk (hbox); have n4_ := Aside0.mk ((by rw [hg]; exact (below_size (by repeat ((with_reducible exact HB.out)))) : w.heap.size ≤ gb274)); have n5_ := Aside0.mk ((by rw [hg]; exact (below_size (by repeat ((with_reducible exact HB.out)))) : w.heap.size ≤ gb274)); clear HO267; clear HO270; clear HB; have HO267 := n0_; have HO270 := n1_; have HB := n2_; have BK274 := n3_; have GW274 := n4_; have GE274 := n5_; clear n0_ n1_ n2_ n3_ n4_ n5_; clear hb hbox hg; have hcz29_0 : w28.cell? ⟨gb274, 0, none⟩ = some (.int .i64 0) := (blk_cell BK274.out 0).trans rfl; have hcz29_1 : w28.cell? ⟨gb274, 1, none⟩ = some (.int .i64 0) := (blk_cell BK274.out 1).trans rfl; have hcz29_2 : w28.cell? ⟨gb274, 2, none⟩ = some (.slice none 0 0) := (blk_cell BK274.out 2).trans rfl; have hcz29_3 : w28.cell? ⟨gb274, 3, none⟩ = some (.slice none 0 0) := (blk_cell BK274.out 3).trans rfl; have hcz29_4 : w28.cell? ⟨gb274, 4, none⟩ = some (.bool false) := (blk_cell BK274.out 4).trans rfl; have hcz29_5 : w28.cell? ⟨gb274, 5, none⟩ = some (.int .i64 0) := (blk_cell BK274.out 5).trans rfl; have hfz29_0 := blk_frozen BK274.out 0; have hfz29_1 := blk_frozen BK274.out 1; have hfz29_2 := blk_frozen BK274.out 2; have hfz29_3 := blk_frozen BK274.out 3; have hfz29_4 := blk_frozen BK274.out 4; have hfz29_5 := blk_frozen BK274.out 5; obtain ⟨Ao30, co30, eo30⟩ := Kd.R_slice HO267.out; subst eo30; obtain ⟨Ao31, co31, eo31⟩ := Kd.S_slice HO270.out; subst eo31))
    go_ret
    exact ⟨by rfl, by repeat ((with_reducible first | exact HB.out | refine below_set ?_ GE274.out))⟩
  rw [if_neg c2] at H
  have c2b0 : (t273 == 0) = false := beq_eq_false_iff_ne.mpr c2
  have c2b1 : (t273 != 0) = true := bne_iff_ne.mpr c2
  obtain rfl := Option.some.inj H
  go_enter Tryd.func8, Tryd.ntmps8
  go_wp2_with (first | ((with_reducible refine gate_callee (f := 6) rfl ?_); refine goesL_ (some 4) rfl rfl Tryd.func6 (by kernel_rfl) rfl #[.string (⟨#[55, 10, 114, 111, 119, 115, 10, 63, 120, 9, 63, 121, 10, 60, 97, 62, 9, 10]⟩ : ByteArray)] rfl (by (try simp only [List.map_toArray, List.map_cons, List.map_nil]); rfl) ?_; (with_reducible refine (result_Get.calls k (⟨#[55, 10, 114, 111, 119, 115, 10, 63, 120, 9, 63, 121, 10, 60, 97, 62, 9, 10]⟩ : ByteArray) t263 t264 t265 t268 t271 t272 t273 _ (Gl.below HGL.out (by repeat ((with_reducible exact HB.out)))) A1.out).mono ?_); rintro e w32 ⟨v266, v269, rfl, ho0, ho1, hb⟩; refine ⟨_, rfl, ?_⟩; have n0_ := Aside0.mk (Kd.R_lower ho0 (below_size (by repeat ((with_reducible exact HB.out))))); have n1_ := Aside0.mk (Kd.S_lower ho1 (below_size (by repeat ((with_reducible exact HB.out))))); have n2_ := Aside0.mk (below_step (by repeat ((with_reducible exact HB.out))) hb); clear HB; have HO267 := n0_; have HO270 := n1_; have HB := n2_; clear n0_ n1_ n2_; (try clear hb); (try clear ho0); (try clear ho1)) | ((with_reducible refine gate_dst (N := 1) rfl ?_); (try (refine gate_guard (by rfl) ?_; dsimp only)); refine box_event ?hg (N := 1) ?hd (cs := #[.int .i64 0, .int .i64 0, .slice none 0 0, .slice none 0 0, .bool false, .int .i64 0]) (t := 28) ?hr ?_; (case hd => rfl); (case hg => rfl); (case hr => (go_simp; done)); intro gb274 hg w33 hbox hb; have n0_ := Aside0.mk (Kd.R_below (by (with_reducible repeat (fail)); exact HO267.out) hb); have n1_ := Aside0.mk (Kd.S_below (by (with_reducible repeat (fail)); exact HO270.out) hb); have n2_ := Aside0.mk (below_step (by repeat ((with_reducible exact HB.out))) hb); have n3_ := Aside0.mk (hbox); have n4_ := Aside0.mk ((by rw [hg]; exact (below_size (by repeat ((with_reducible exact HB.out)))) : w.heap.size ≤ gb274)); have n5_ := Aside0.mk ((by rw [hg]; exact (below_size (by repeat ((with_reducible exact HB.out)))) : w.heap.size ≤ gb274)); clear HO267; clear HO270; clear HB; have HO267 := n0_; have HO270 := n1_; have HB := n2_; have BK274 := n3_; have GW274 := n4_; have GE274 := n5_; clear n0_ n1_ n2_ n3_ n4_ n5_; clear hb hbox hg; have hcz34_0 : w33.cell? ⟨gb274, 0, none⟩ = some (.int .i64 0) := (blk_cell BK274.out 0).trans rfl; have hcz34_1 : w33.cell? ⟨gb274, 1, none⟩ = some (.int .i64 0) := (blk_cell BK274.out 1).trans rfl; have hcz34_2 : w33.cell? ⟨gb274, 2, none⟩ = some (.slice none 0 0) := (blk_cell BK274.out 2).trans rfl; have hcz34_3 : w33.cell? ⟨gb274, 3, none⟩ = some (.slice none 0 0) := (blk_cell BK274.out 3).trans rfl; have hcz34_4 : w33.cell? ⟨gb274, 4, none⟩ = some (.bool false) := (blk_cell BK274.out 4).trans rfl; have hcz34_5 : w33.cell? ⟨gb274, 5, none⟩ = some (.int .i64 0) := (blk_cell BK274.out 5).trans rfl; have hfz34_0 := blk_frozen BK274.out 0; have hfz34_1 := blk_frozen BK274.out 1; have hfz34_2 := blk_frozen BK274.out 2; have hfz34_3 := blk_frozen BK274.out 3; have hfz34_4 := blk_frozen BK274.out 4; have hfz34_5 := blk_frozen BK274.out 5; obtain ⟨Ao35, co35, eo35⟩ := Kd.R_slice HO267.out; subst eo35; obtain ⟨Ao36, co36, eo36⟩ := Kd.S_slice HO270.out; subst eo36))
  go_ret
  exact ⟨by rfl, by repeat ((with_reducible first | exact HB.out | refine below_set ?_ GE274.out))⟩
def slices_Equal_string_string.l0 : Nat → List ByteArray → List ByteArray → Int → Int → Option (Bool)
  | 0, _, _, _, _ => none
  | k + 1, x0, x1, x12, x13 => if x13 < x12 then (if 0 ≤ x13 then (if x13 < (x0.length : Int) then (if x13 < (x1.length : Int) then (if (rdOf ByteArray.empty x0 x13).toList = (rdOf ByteArray.empty x1 x13).toList then (slices_Equal_string_string.l0 k x0 x1 x12 (wrap64 (x13 + 1))) else (some false)) else (none)) else (none)) else (none)) else (some true)
def slices_Equal_string_string.f (k : Nat) (l0 : List ByteArray) (l1 : List ByteArray) : Option (Bool) := if (l0.length : Int) = (l1.length : Int) then (slices_Equal_string_string.l0 k l0 l1 (l0.length : Int) 0) else (some false)
set_option maxHeartbeats 8000000 in
set_option maxRecDepth 100000 in
theorem slices_Equal_string_string.calls (k : Nat) (A0 : Option Addr) (c0 : Nat) (l0 : List ByteArray) (A1 : Option Addr) (c1 : Nat) (l1 : List ByteArray) (r : Bool) (w : World) (hr0 : Kd.C Kd.string w A0 l0.length l0) (hc0 : l0.length ≤ c0) (hr1 : Kd.C Kd.string w A1 l1.length l1) (hc1 : l1.length ≤ c1) (h : slices_Equal_string_string.f k l0 l1 = some r) :
    Calls Tryd.prog 22 #[.slice A0 l0.length c0, .slice A1 l1.length c1] w fun e w' => e = .returned (.bool r) ∧ Drawn0 w w' := by
  have HR0 := Aside0.mk hr0
  have HC0 := Aside0.mk hc0
  clear hr0 hc0
  have HR1 := Aside0.mk hr1
  have HC1 := Aside0.mk hc1
  clear hr1 hc1
  have H : (if (l0.length : Int) = (l1.length : Int) then (slices_Equal_string_string.l0 k l0 l1 (l0.length : Int) 0) else (some false)) = some r := h
  clear h
  by_cases c3 : (l0.length : Int) = (l1.length : Int)
  · rw [if_pos c3] at H
    have c3b0 : ((l0.length : Int) == (l1.length : Int)) = true := beq_iff_eq.mpr c3
    have c3b1 : ((l0.length : Int) != (l1.length : Int)) = false := bne_eq_false_iff_eq.mpr c3
    have c3b2 : (l0.length == l1.length) = true := by (simp at c3 ⊢; omega)
    clear c3
    have H' := Aside0.mk H
    clear H
    go_enter Tryd.func22, Tryd.ntmps22
    go_wp2
    repeat (go_quiet (fail))
    go_loopg [13] k (fun kq v13 w' => ∃ (x13_1 : Int), v13 = .int .i64 x13_1 ∧ Aside0 (slices_Equal_string_string.l0 kq l0 l1 (l0.length : Int) x13_1 = some r) ∧ Aside0 (kq ≤ k) ∧ Drawn0 w w')
    case atStart => exact ⟨(0), (by rfl), H', ⟨Nat.le_refl _⟩, by repeat (exact Drawn0.refl _)⟩
    case round =>
      clear H'
      try clear c3b0
      try clear c3b1
      try clear c3b2
      obtain ⟨x13_1, rfl, HA, HK1, ⟨m1, rfl⟩⟩ := hrel
      cases gk with
      | zero => exact absurd HA.out (by simp [slices_Equal_string_string.l0])
      | succ k1 =>
        have H := HA.out
        clear HA
        simp only [slices_Equal_string_string.l0] at H
        by_cases c4 : x13_1 < (l0.length : Int)
        · rw [if_pos c4] at H
          have c4b0 : decide (x13_1 < (l0.length : Int)) = true := decide_eq_true c4
          clear c4
          by_cases c5 : 0 ≤ x13_1
          · rw [if_pos c5] at H
            have c5b0 : decide (0 ≤ x13_1) = true := decide_eq_true c5
            clear c5
            by_cases c6 : x13_1 < (l0.length : Int)
            · rw [if_pos c6] at H
              have c6b0 : decide (x13_1 < (l0.length : Int)) = true := decide_eq_true c6
              clear c6
              by_cases c7 : x13_1 < (l1.length : Int)
              · rw [if_pos c7] at H
                have c7b0 : decide (x13_1 < (l1.length : Int)) = true := decide_eq_true c7
                clear c7
                by_cases c8 : (rdOf ByteArray.empty l0 x13_1).toList = (rdOf ByteArray.empty l1 x13_1).toList
                · rw [if_pos c8] at H
                  have c8b0 : ((rdOf ByteArray.empty l0 x13_1).toList == (rdOf ByteArray.empty l1 x13_1).toList) = true := beq_iff_eq.mpr c8
                  have c8b1 : ((rdOf ByteArray.empty l0 x13_1).toList != (rdOf ByteArray.empty l1 x13_1).toList) = false := bne_eq_false_iff_eq.mpr c8
                  clear c8
                  have H' := Aside0.mk H
                  clear H
                  have p278 : 0 ≤ (x13_1 : Int) := of_decide_eq_true (by (with_reducible assumption))
                  have q278 : x13_1 < (l0.length : Int) := of_decide_eq_true (by (with_reducible assumption))
                  obtain ⟨ad278, e278, hx278_0⟩ := Kd.at_string HR0.out x13_1 p278 q278
                  cases e278
                  replace p278 := eq_true p278
                  replace q278 := eq_true q278
                  have p279 : 0 ≤ (x13_1 : Int) := of_decide_eq_true (by (with_reducible assumption))
                  have q279 : x13_1 < (l1.length : Int) := of_decide_eq_true (by (with_reducible assumption))
                  obtain ⟨ad279, e279, hx279_0⟩ := Kd.at_string HR1.out x13_1 p279 q279
                  cases e279
                  replace p279 := eq_true p279
                  replace q279 := eq_true q279
                  go_wp2
                  repeat (go_quiet (fail); try go_wp2)
                  go_roundg k1
                  case measure => have := HK1.out; omega
                  case rel => exact ⟨(wrap64 (x13_1 + 1)), (by rfl), H', ⟨by have := HK1.out; omega⟩, by repeat (first | exact Drawn0.refl _ | apply Drawn0.step)⟩
                rw [if_neg c8] at H
                have c8b0 : ((rdOf ByteArray.empty l0 x13_1).toList == (rdOf ByteArray.empty l1 x13_1).toList) = false := beq_eq_false_iff_ne.mpr c8
                have c8b1 : ((rdOf ByteArray.empty l0 x13_1).toList != (rdOf ByteArray.empty l1 x13_1).toList) = true := bne_iff_ne.mpr c8
                obtain rfl := Option.some.inj H
                have p278 : 0 ≤ (x13_1 : Int) := of_decide_eq_true (by (with_reducible assumption))
                have q278 : x13_1 < (l0.length : Int) := of_decide_eq_true (by (with_reducible assumption))
                obtain ⟨ad278, e278, hx278_0⟩ := Kd.at_string HR0.out x13_1 p278 q278
                cases e278
                replace p278 := eq_true p278
                replace q278 := eq_true q278
                have p279 : 0 ≤ (x13_1 : Int) := of_decide_eq_true (by (with_reducible assumption))
                have q279 : x13_1 < (l1.length : Int) := of_decide_eq_true (by (with_reducible assumption))
                obtain ⟨ad279, e279, hx279_0⟩ := Kd.at_string HR1.out x13_1 p279 q279
                cases e279
                replace p279 := eq_true p279
                replace q279 := eq_true q279
                go_wp2
                repeat (go_quiet (fail); try go_wp2)
                go_ret
                exact ⟨by rfl, by repeat (first | exact Drawn0.refl _ | apply Drawn0.step)⟩
              rw [if_neg c7] at H
              exact absurd H (by simp)
            rw [if_neg c6] at H
            exact absurd H (by simp)
          rw [if_neg c5] at H
          exact absurd H (by simp)
        rw [if_neg c4] at H
        have c4b0 : decide (x13_1 < (l0.length : Int)) = false := decide_eq_false c4
        clear c4
        obtain rfl := Option.some.inj H
        go_wp2
        repeat (go_quiet (fail))
        go_ret
        exact ⟨by rfl, by repeat (first | exact Drawn0.refl _ | apply Drawn0.step)⟩
  rw [if_neg c3] at H
  have c3b0 : ((l0.length : Int) == (l1.length : Int)) = false := beq_eq_false_iff_ne.mpr c3
  have c3b1 : ((l0.length : Int) != (l1.length : Int)) = true := bne_iff_ne.mpr c3
  have c3b2 : (l0.length == l1.length) = false := by (simp at c3 ⊢; omega)
  obtain rfl := Option.some.inj H
  go_enter Tryd.func22, Tryd.ntmps22
  go_wp2
  repeat (go_quiet (fail))
  go_ret
  exact ⟨by rfl, by repeat (exact Drawn0.refl _)⟩
-- NOT PRINTED: function 23 (api_Term_23)
def api_Term_25.l0 : Nat → List (S43) → List (S43) → Int → Int → Option (Bool)
  | 0, _, _, _, _ => none
  | k + 1, x0, x1, x12, x13 => if x13 < x12 then (if 0 ≤ x13 then (if x13 < (x0.length : Int) then (if x13 < (x1.length : Int) then (if (!(((rd_T43 x0 x13).f0) == ((rd_T43 x1 x13).f0)) || (!((((rd_T43 x0 x13).f1).toList) == (((rd_T43 x1 x13).f1).toList)) || (!((((rd_T43 x0 x13).f2).toList) == (((rd_T43 x1 x13).f2).toList)) || (!((((rd_T43 x0 x13).f3).toList) == (((rd_T43 x1 x13).f3).toList)))))) = true then (some false) else (api_Term_25.l0 k x0 x1 x12 (wrap64 (x13 + 1)))) else (none)) else (none)) else (none)) else (some true)
def api_Term_25.f (k : Nat) (l0 : List (S43)) (l1 : List (S43)) : Option (Bool) := if (l0.length : Int) = (l1.length : Int) then (api_Term_25.l0 k l0 l1 (l0.length : Int) 0) else (some false)
set_option maxHeartbeats 8000000 in
set_option maxRecDepth 100000 in
theorem api_Term_25.calls (k : Nat) (A0 : Option Addr) (c0 : Nat) (l0 : List (S43)) (A1 : Option Addr) (c1 : Nat) (l1 : List (S43)) (r : Bool) (w : World) (hr0 : Kd.C k43 w A0 l0.length l0) (hc0 : l0.length ≤ c0) (hr1 : Kd.C k43 w A1 l1.length l1) (hc1 : l1.length ≤ c1) (h : api_Term_25.f k l0 l1 = some r) :
    Calls Tryd.prog 25 #[.slice A0 l0.length c0, .slice A1 l1.length c1] w fun e w' => e = .returned (.bool r) ∧ Drawn0 w w' := by
  have hu43 := Tryd.underlying43
  have HR0 := Aside0.mk hr0
  have HC0 := Aside0.mk hc0
  clear hr0 hc0
  have HR1 := Aside0.mk hr1
  have HC1 := Aside0.mk hc1
  clear hr1 hc1
  have H : (if (l0.length : Int) = (l1.length : Int) then (api_Term_25.l0 k l0 l1 (l0.length : Int) 0) else (some false)) = some r := h
  clear h
  by_cases c3 : (l0.length : Int) = (l1.length : Int)
  · rw [if_pos c3] at H
    have c3b0 : ((l0.length : Int) == (l1.length : Int)) = true := beq_iff_eq.mpr c3
    have c3b1 : ((l0.length : Int) != (l1.length : Int)) = false := bne_eq_false_iff_eq.mpr c3
    have c3b2 : (l0.length == l1.length) = true := by (simp at c3 ⊢; omega)
    clear c3
    have H' := Aside0.mk H
    clear H
    go_enter Tryd.func25, Tryd.ntmps25
    go_wp2
    repeat (go_quiet (fail))
    go_loopg [13] k (fun kq v13 w' => ∃ (x13_1 : Int), v13 = .int .i64 x13_1 ∧ Aside0 (api_Term_25.l0 kq l0 l1 (l0.length : Int) x13_1 = some r) ∧ Aside0 (kq ≤ k) ∧ Drawn0 w w')
    case atStart => exact ⟨(0), (by rfl), H', ⟨Nat.le_refl _⟩, by repeat (exact Drawn0.refl _)⟩
    case round =>
      clear H'
      try clear c3b0
      try clear c3b1
      try clear c3b2
      obtain ⟨x13_1, rfl, HA, HK1, ⟨m1, rfl⟩⟩ := hrel
      cases gk with
      | zero => exact absurd HA.out (by simp [api_Term_25.l0])
      | succ k1 =>
        have H := HA.out
        clear HA
        simp only [api_Term_25.l0] at H
        by_cases c4 : x13_1 < (l0.length : Int)
        · rw [if_pos c4] at H
          have c4b0 : decide (x13_1 < (l0.length : Int)) = true := decide_eq_true c4
          clear c4
          by_cases c5 : 0 ≤ x13_1
          · rw [if_pos c5] at H
            have c5b0 : decide (0 ≤ x13_1) = true := decide_eq_true c5
            clear c5
            by_cases c6 : x13_1 < (l0.length : Int)
            · rw [if_pos c6] at H
              have c6b0 : decide (x13_1 < (l0.length : Int)) = true := decide_eq_true c6
              clear c6
              by_cases c7 : x13_1 < (l1.length : Int)
              · rw [if_pos c7] at H
                have c7b0 : decide (x13_1 < (l1.length : Int)) = true := decide_eq_true c7
                clear c7
                by_cases c8 : (!(((rd_T43 l0 x13_1).f0) == ((rd_T43 l1 x13_1).f0)) || (!((((rd_T43 l0 x13_1).f1).toList) == (((rd_T43 l1 x13_1).f1).toList)) || (!((((rd_T43 l0 x13_1).f2).toList) == (((rd_T43 l1 x13_1).f2).toList)) || (!((((rd_T43 l0 x13_1).f3).toList) == (((rd_T43 l1 x13_1).f3).toList)))))) = true
                · rw [if_pos c8] at H
                  have c8b0 : (!(((rd_T43 l0 x13_1).f0) == ((rd_T43 l1 x13_1).f0)) || (!((((rd_T43 l0 x13_1).f1).toList) == (((rd_T43 l1 x13_1).f1).toList)) || (!((((rd_T43 l0 x13_1).f2).toList) == (((rd_T43 l1 x13_1).f2).toList)) || (!((((rd_T43 l0 x13_1).f3).toList) == (((rd_T43 l1 x13_1).f3).toList)))))) = true := c8
                  clear c8
                  obtain rfl := Option.some.inj H
                  have p280 : 0 ≤ (x13_1 : Int) := of_decide_eq_true (by (with_reducible assumption))
                  have q280 : x13_1 < (l0.length : Int) := of_decide_eq_true (by (with_reducible assumption))
                  obtain ⟨ad280, e280, hx280_0, hx280_1, hx280_2, hx280_3⟩ := at_T43 HR0.out x13_1 p280 q280
                  cases e280
                  replace p280 := eq_true p280
                  replace q280 := eq_true q280
                  have p281 : 0 ≤ (x13_1 : Int) := of_decide_eq_true (by (with_reducible assumption))
                  have q281 : x13_1 < (l1.length : Int) := of_decide_eq_true (by (with_reducible assumption))
                  obtain ⟨ad281, e281, hx281_0, hx281_1, hx281_2, hx281_3⟩ := at_T43 HR1.out x13_1 p281 q281
                  cases e281
                  replace p281 := eq_true p281
                  replace q281 := eq_true q281
                  go_wp2
                  repeat (go_quiet (fail); try go_wp2)
                  go_ret
                  exact ⟨by rfl, by repeat (first | exact Drawn0.refl _ | apply Drawn0.step)⟩
                rw [if_neg c8] at H
                have c8b0 : (!(((rd_T43 l0 x13_1).f0) == ((rd_T43 l1 x13_1).f0)) || (!((((rd_T43 l0 x13_1).f1).toList) == (((rd_T43 l1 x13_1).f1).toList)) || (!((((rd_T43 l0 x13_1).f2).toList) == (((rd_T43 l1 x13_1).f2).toList)) || (!((((rd_T43 l0 x13_1).f3).toList) == (((rd_T43 l1 x13_1).f3).toList)))))) = false := by simpa using c8
                clear c8
                have H' := Aside0.mk H
                clear H
                have p280 : 0 ≤ (x13_1 : Int) := of_decide_eq_true (by (with_reducible assumption))
                have q280 : x13_1 < (l0.length : Int) := of_decide_eq_true (by (with_reducible assumption))
                obtain ⟨ad280, e280, hx280_0, hx280_1, hx280_2, hx280_3⟩ := at_T43 HR0.out x13_1 p280 q280
                cases e280
                replace p280 := eq_true p280
                replace q280 := eq_true q280
                have p281 : 0 ≤ (x13_1 : Int) := of_decide_eq_true (by (with_reducible assumption))
                have q281 : x13_1 < (l1.length : Int) := of_decide_eq_true (by (with_reducible assumption))
                obtain ⟨ad281, e281, hx281_0, hx281_1, hx281_2, hx281_3⟩ := at_T43 HR1.out x13_1 p281 q281
                cases e281
                replace p281 := eq_true p281
                replace q281 := eq_true q281
                go_wp2
                repeat (go_quiet (fail); try go_wp2)
                go_roundg k1
                case measure => have := HK1.out; omega
                case rel => exact ⟨(wrap64 (x13_1 + 1)), (by rfl), H', ⟨by have := HK1.out; omega⟩, by repeat (first | exact Drawn0.refl _ | apply Drawn0.step)⟩
              rw [if_neg c7] at H
              exact absurd H (by simp)
            rw [if_neg c6] at H
            exact absurd H (by simp)
          rw [if_neg c5] at H
          exact absurd H (by simp)
        rw [if_neg c4] at H
        have c4b0 : decide (x13_1 < (l0.length : Int)) = false := decide_eq_false c4
        clear c4
        obtain rfl := Option.some.inj H
        go_wp2
        repeat (go_quiet (fail))
        go_ret
        exact ⟨by rfl, by repeat (first | exact Drawn0.refl _ | apply Drawn0.step)⟩
  rw [if_neg c3] at H
  have c3b0 : ((l0.length : Int) == (l1.length : Int)) = false := beq_eq_false_iff_ne.mpr c3
  have c3b1 : ((l0.length : Int) != (l1.length : Int)) = true := bne_iff_ne.mpr c3
  have c3b2 : (l0.length == l1.length) = false := by (simp at c3 ⊢; omega)
  obtain rfl := Option.some.inj H
  go_enter Tryd.func25, Tryd.ntmps25
  go_wp2
  repeat (go_quiet (fail))
  go_ret
  exact ⟨by rfl, by repeat (exact Drawn0.refl _)⟩
end Go.Proofs.YtgabadlneeffkaaDoor.S
