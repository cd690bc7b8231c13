/- Requests put and got, by the program and by the reference; the three laws of requests on what the functions compute. -/
import Derived.Test.YtlkpdfbmklanoaaDoorPr
namespace Go.Proofs.YtlkpdfbmklanoaaDoor.Q
open Go.RowKit Go.Lib Go.Proofs.YtlkpdfbmklanoaaDoor Go.Proofs.YtlkpdfbmklanoaaDoorW.PrintWords Go.Proofs.YtlkpdfbmklanoaaDoorW.PrintLast

def putL (n : Nat) (t : List UInt8) : List UInt8 := [105, 100, 61] ++ dd n ++ [38, 113, 117, 101, 114, 121, 61] ++ enc t
def checkC (n : Int) (t : ByteArray) : Int := if n < 0 ∨ n ≥ 4096 then 1 else if (t.size : Int) > 4096 then 3 else 0
theorem pCheck (n : Int) (t : ByteArray) : Ev (fun k => request_Check.f k n t) (checkC n t) := by
  unfold request_Check.f checkC
  by_cases h0 : n < 0
  · simp only [if_pos h0, if_pos (Or.inl h0 : n < 0 ∨ n ≥ 4096)]
    refine Ev.step (fun k => by rw [request_Check.j0]) ?_
    simp only [if_true]; exact Ev.now _
  · simp only [if_neg h0]
    refine Ev.step (fun k => by rw [request_Check.j0]) ?_
    by_cases h1 : n ≥ 4096
    · simp only [decide_eq_true h1, if_true, if_pos (Or.inr h1 : n < 0 ∨ n ≥ 4096)]; exact Ev.now _
    · simp only [decide_eq_false h1, Bool.false_eq_true, if_false, if_neg (not_or.2 ⟨h0, h1⟩)]
      by_cases h2 : (t.size : Int) > 4096
      · simp only [if_pos h2]; exact Ev.now _
      · simp only [if_neg h2]; exact Ev.now _
theorem rCheck (n : Int) (t : ByteArray) : Ev (fun k => legationref16_Check.f k n t) (checkC n t) := by
  unfold legationref16_Check.f checkC
  by_cases h0 : n < 0
  · simp only [if_pos h0, if_pos (Or.inl h0 : n < 0 ∨ n ≥ 4096)]
    refine Ev.step (fun k => by rw [legationref16_Check.j0]) ?_
    simp only [if_true]; exact Ev.now _
  · simp only [if_neg h0]
    refine Ev.step (fun k => by rw [legationref16_Check.j0]) ?_
    by_cases h1 : n ≥ 4096
    · simp only [decide_eq_true h1, if_true, if_pos (Or.inr h1 : n < 0 ∨ n ≥ 4096)]; exact Ev.now _
    · simp only [decide_eq_false h1, Bool.false_eq_true, if_false, if_neg (not_or.2 ⟨h0, h1⟩)]
      by_cases h2 : (t.size : Int) > 4096
      · simp only [if_pos h2]; exact Ev.now _
      · simp only [if_neg h2]; exact Ev.now _
theorem check_zero {n : Int} {t : ByteArray} (h : checkC n t = 0) : 0 ≤ n ∧ n < 4096 ∧ t.size ≤ 4096 := by
  unfold checkC at h
  split at h
  · cases h
  · split at h
    · cases h
    · omega
theorem check_of {n : Nat} {t : List UInt8} (hn : n < 4096) (ht : t.length ≤ 4096) : checkC n (ofL t) = 0 := by
  unfold checkC
  rw [if_neg (by omega), if_neg (by rw [ofL_size]; omega)]
theorem dd_length (n : Nat) : (dd n).length ≤ 4 := by
  unfold dd
  split
  · simp
  · split
    · simp
    · split <;> simp
theorem pWrite2 (n : Nat) (t : ByteArray) (hn : n < 4096) (ht : t.size ≤ 4096) :
    Ev (fun k => percent_Write.f k [(⟨⟨#[105, 100]⟩, ofL (dd n)⟩ : S39), (⟨⟨#[113, 117, 101, 114, 121]⟩, t⟩ : S39)]) (ofL (putL n t.data.toList), 0) := by
  unfold percent_Write.f
  have e1 := pEncode (⟨#[105, 100]⟩ : ByteArray) (by decide)
  have e2 := pEncode (ofL (dd n)) (by rw [ofL_size]; have := dd_length n; omega)
  have e3 := pEncode (⟨#[113, 117, 101, 114, 121]⟩ : ByteArray) (by decide)
  have e4 := pEncode t (by omega)
  rw [ofL_toList, enc_dd n hn] at e2
  have hl := (enc_length t.data.toList).2
  rw [size_toList] at hl
  have hdl := dd_length n
  have q1 : (⟨#[105, 100]⟩ : ByteArray).data.toList = [105, 100] := rfl
  have q2 : (⟨#[113, 117, 101, 114, 121]⟩ : ByteArray).data.toList = [113, 117, 101, 114, 121] := rfl
  rw [q1, show enc [105, 100] = [105, 100] by decide] at e1
  rw [q2, show enc [113, 117, 101, 114, 121] = [113, 117, 101, 114, 121] by decide] at e3
  have q3 : (⟨#[61]⟩ : ByteArray) = ofL [61] := rfl
  have r0 : rd_T39 [(⟨⟨#[105, 100]⟩, ofL (dd n)⟩ : S39), (⟨⟨#[113, 117, 101, 114, 121]⟩, t⟩ : S39)] 0 = ⟨⟨#[105, 100]⟩, ofL (dd n)⟩ := rfl
  have r1 : rd_T39 [(⟨⟨#[105, 100]⟩, ofL (dd n)⟩ : S39), (⟨⟨#[113, 117, 101, 114, 121]⟩, t⟩ : S39)] 1 = ⟨⟨#[113, 117, 101, 114, 121]⟩, t⟩ := rfl
  simp only [List.length_cons, List.length_nil, Nat.reduceAdd]
  simp only [if_neg (show ¬ ((2 : Nat) : Int) > 64 by decide)]
  refine Ev.step (fun k => by rw [percent_Write.l0]) ?_
  simp only [if_pos (show (0 : Int) < ((2 : Nat) : Int) by decide), if_pos (show (0 : Int) ≤ 0 by decide), List.length_cons, List.length_nil, Nat.reduceAdd, r0]
  refine Ev.bind e1 ?_
  simp only [ofL_size, q3, if_pos (show ([105, 100] : List UInt8).length + 1 ≤ 9223372036854775807 by decide)]
  refine Ev.bind e2 ?_
  simp only [ofL_append, ofL_size, if_pos (show ([105, 100] ++ [61] : List UInt8).length + (dd n).length ≤ 9223372036854775807 by simp; omega), if_pos (show 0 < 8796093022208 by decide), show wrap64 (0 + 1) = 1 by unfold wrap64; decide]
  refine Ev.step (fun k => by rw [percent_Write.l0]) ?_
  simp only [if_pos (show (1 : Int) < ((2 : Nat) : Int) by decide), if_pos (show (0 : Int) ≤ 1 by decide), List.length_cons, List.length_nil, Nat.reduceAdd, r1]
  refine Ev.bind e3 ?_
  simp only [ofL_size, q3, if_pos (show ([113, 117, 101, 114, 121] : List UInt8).length + 1 ≤ 9223372036854775807 by decide)]
  refine Ev.bind e4 ?_
  simp only [ofL_append, ofL_size, if_pos (show ([113, 117, 101, 114, 121] ++ [61] : List UInt8).length + (enc t.data.toList).length ≤ 9223372036854775807 by simp; omega), List.nil_append, List.length_cons, List.length_nil, if_pos (show 0 + 1 < 8796093022208 by decide), show wrap64 (1 + 1) = 2 by unfold wrap64; decide]
  refine Ev.step (fun k => by rw [percent_Write.l0]) ?_
  simp only [if_neg (show ¬ (2 : Int) < ((2 : Nat) : Int) by decide)]
  have hj : strings_Join.f ([ofL ([105, 100] ++ [61] ++ dd n)] ++ [ofL ([113, 117, 101, 114, 121] ++ [61] ++ enc t.data.toList)]) (⟨#[38]⟩ : ByteArray) = some (ofL (putL n t.data.toList)) := by
    have hx : Lib.join (([ofL ([105, 100] ++ [61] ++ dd n)] ++ [ofL ([113, 117, 101, 114, 121] ++ [61] ++ enc t.data.toList)]).map (·.data.toList)) (⟨#[38]⟩ : ByteArray).data.toList = putL n t.data.toList := by
      simp [Lib.join, List.intercalate, ofL_toList, putL]
    unfold strings_Join.f
    rw [hx, if_pos]
    · rfl
    · refine ⟨by simp, ?_⟩
      unfold putL
      simp only [List.length_append, List.length_cons, List.length_nil]
      omega
  simp only [hj, Option.bind_some]
  exact Ev.now _
theorem pPut_no {n : Int} {t : ByteArray} (h : checkC n t ≠ 0) : Ev (fun k => request_Put.f k n t) (⟨#[]⟩, checkC n t) := by
  unfold request_Put.f
  refine Ev.bind (pCheck n t) ?_
  simp only [if_neg h]
  exact Ev.now _
theorem pPut_yes {n : Int} {t : ByteArray} (h : checkC n t = 0) : Ev (fun k => request_Put.f k n t) (ofL (putL n.toNat t.data.toList), 0) := by
  unfold request_Put.f
  obtain ⟨h0, h1, h2⟩ := check_zero h
  refine Ev.bind (pCheck n t) ?_
  obtain ⟨m, rfl⟩ : ∃ m : Nat, n = m := ⟨n.toNat, by omega⟩
  simp only [if_pos h, if_pos (show (0 : Int) ≤ (m : Int) ∧ (m : Int) ≤ 9223372036854775807 by omega), itoa_dd m (by omega), Int.toNat_natCast]
  exact pWrite2 m t (by omega) h2
theorem rDigits (n : Nat) (h : n < 4096) : Ev (fun k => legationref02_Digits.f k (n : Int) 1) (ofL (dd n)) := by
  refine Ev.of (k := 8) (fun k => legationref02_Digits.mono _ _ k) ?_
  have key : ∀ a b : Fin 64, ((legationref02_Digits.f 8 ((64 * a.val + b.val : Nat) : Int) 1).map (·.data.toList)) = some (dd (64 * a.val + b.val)) := by decide +kernel
  have := key ⟨n / 64, by omega⟩ ⟨n % 64, by omega⟩
  simp only at this
  rw [show 64 * (n / 64) + n % 64 = n by omega] at this
  obtain ⟨x, hx, hd⟩ := Option.map_eq_some_iff.1 this
  rw [hx, ← hd, ofL_data]
theorem rPut (n : Nat) (t : ByteArray) (hn : n < 4096) (ht : t.size ≤ 35184372088832) : Ev (fun k => legationref16_Put.f k (n : Int) t) (ofL (putL n t.data.toList)) := by
  unfold legationref16_Put.f
  have hdl := dd_length n
  have hl := (enc_length t.data.toList).2
  rw [size_toList] at hl
  have q1 : (⟨#[105, 100, 61]⟩ : ByteArray) = ofL [105, 100, 61] := rfl
  have q2 : (⟨#[38, 113, 117, 101, 114, 121, 61]⟩ : ByteArray) = ofL [38, 113, 117, 101, 114, 121, 61] := rfl
  refine Ev.bind (rDigits n hn) ?_
  simp only [q1, q2, ofL_append, ofL_size, if_pos (show 3 + (dd n).length ≤ 9223372036854775807 by omega), if_pos (show ([105, 100, 61] ++ dd n).length + 7 ≤ 9223372036854775807 by simp; omega)]
  refine Ev.bind (rEncode t ht) ?_
  simp only [ofL_append, ofL_size, if_pos (show ([105, 100, 61] ++ dd n ++ [38, 113, 117, 101, 114, 121, 61]).length + (enc t.data.toList).length ≤ 9223372036854775807 by simp; omega)]
  exact Ev.now _

/-! ### what is read from a text that was put -/
theorem readL_put (n : Nat) (t : List UInt8) (hn : n < 4096) : readL (putL n t) = ([toPair ([105, 100], dd n), toPair ([113, 117, 101, 114, 121], t)], 0) := by
  have e1 : encP ([105, 100], dd n) = [105, 100, 61] ++ dd n := by unfold encP; rw [enc_dd n hn, show enc [105, 100] = [105, 100] by decide]; rfl
  have e2 : encP ([113, 117, 101, 114, 121], t) = [113, 117, 101, 114, 121, 61] ++ enc t := by unfold encP; rw [show enc [113, 117, 101, 114, 121] = [113, 117, 101, 114, 121] by decide]; rfl
  have e : putL n t = encP ([105, 100], dd n) ++ 38 :: encP ([113, 117, 101, 114, 121], t) := by rw [e1, e2]; simp [putL]
  have no : ∀ x : List UInt8 × List UInt8, 38 ∉ encP x := by
    intro x
    unfold encP
    simp only [List.mem_append, List.mem_cons, not_or]
    exact ⟨(enc_no _).1, by decide, (enc_no _).1⟩
  unfold readL
  rw [if_neg (by simp [putL]), e, splitC_hit 38 _ _ (no _), splitC_miss 38 _ (no _)]
  rw [readA, (pairL_iff _ _).2 rfl]
  simp only
  rw [readA, (pairL_iff _ _).2 rfl]
  simp only
  rw [readA_nil]
  rfl
theorem read_two {l : List UInt8} {L : List S39} (h : readL l = (L, 0)) (h2 : L.length = 2) : ∃ a b, L = [toPair a, toPair b] ∧ l = encP a ++ 38 :: encP b := by
  unfold readL at h
  split at h
  · simp only [Prod.mk.injEq, and_true] at h
    subst h
    cases h2
  · obtain ⟨xs, h3, h4⟩ := readA_some _ _ _ h
    rw [List.nil_append] at h3
    subst h3
    match xs, h2, h4 with
    | [a, b], _, h4 =>
      refine ⟨a, b, rfl, ?_⟩
      have h5 := splitC_cut 38 l
      rw [h4] at h5
      split at h5
      · rename_i p r hc
        simp only [List.map_cons, List.map_nil, List.cons.injEq] at h5
        obtain ⟨rfl, h6⟩ := h5
        have h7 := splitC_cut 38 r
        rw [← h6] at h7
        split at h7
        · rename_i p' r' hc'
          simp only [List.cons.injEq] at h7
          exact absurd h7.2.symm (splitC_ne 38 r')
        · simp only [List.cons.injEq, and_true] at h7
          rw [(cutC_some hc).1, h7]
      · simp at h5
theorem dd_inj {m n : Nat} (hm : m < 4096) (hn : n < 4096) (h : dd m = dd n) : m = n := by
  have h1 := atoi_dd m hm
  rw [h, atoi_dd n hn] at h1
  injection h1 with h1
  omega
theorem toPair_f0 (x : List UInt8 × List UInt8) : (toPair x).f0 = ofL x.1 := rfl
theorem toPair_f1 (x : List UInt8 × List UInt8) : (toPair x).f1 = ofL x.2 := rfl
theorem rd0 (x y : S39) : rd_T39 [x, y] 0 = x := rfl
theorem rd1 (x y : S39) : rd_T39 [x, y] 1 = y := rfl
theorem putL_length (n : Nat) (t : List UInt8) : (putL n t).length ≤ 14 + 3 * t.length := by
  unfold putL
  have := dd_length n
  have := (enc_length t).2
  simp only [List.length_append, List.length_cons, List.length_nil]
  omega
theorem pGet_yes (n : Nat) (t : List UInt8) (hn : n < 4096) (ht : t.length ≤ 4096) : Ev (fun k => request_Get.f k (ofL (putL n t))) ((n : Int), ofL t, 0) := by
  unfold request_Get.f
  refine Ev.bind (pRead _ (by rw [ofL_size]; have := putL_length n t; omega)) ?_
  have hdl := dd_length n
  have ha : atoiV (ofL (dd n)) = (n : Int) := by unfold atoiV; rw [ofL_toList, atoi_dd n hn]
  have hb : atoiOk (ofL (dd n)) = true := by unfold atoiOk; rw [ofL_toList, atoi_dd n hn]
  rw [ofL_toList, readL_put n t hn]
  simp only [rd0, rd1, toPair_f0, toPair_f1, toList_data, ofL_toList, List.length_cons, List.length_nil, and_self, if_true, ofL_size, if_pos (show (dd n).length ≤ 281474976710656 by omega), ha, hb]
  refine Ev.bind (pPut_yes (check_of hn ht)) ?_
  simp only [Int.toNat_natCast, ofL_toList, and_self, if_true]
  exact Ev.now _
theorem pGet_no (s : ByteArray) (hs : s.size < 4294967281) (hno : ∀ (n : Nat) (t : List UInt8), n < 4096 → t.length ≤ 4096 → s.data.toList ≠ putL n t) : Ev (fun k => request_Get.f k s) (0, ⟨#[]⟩, 2) := by
  unfold request_Get.f
  refine Ev.bind (pRead _ hs) ?_
  by_cases hc : (readL s.data.toList).2 = 0 ∧ (readL s.data.toList).1.length = 2 ∧ (rd_T39 (readL s.data.toList).1 0).f0.toList = [105, 100] ∧ (rd_T39 (readL s.data.toList).1 1).f0.toList = [113, 117, 101, 114, 121]
  · simp only [if_pos hc]
    obtain ⟨a, b, h1, h2⟩ := read_two (show readL s.data.toList = ((readL s.data.toList).1, 0) from Prod.ext rfl hc.1) hc.2.1
    rw [h1, rd0, rd1, toPair_f1, toPair_f1]
    have hz : a.2.length ≤ s.size := by
      rw [← size_toList, h2]
      have := (enc_length a.2).1
      unfold encP
      simp only [List.length_append, List.length_cons]
      omega
    simp only [ofL_size, if_pos (show a.2.length ≤ 281474976710656 by omega)]
    by_cases hk : checkC (atoiV (ofL a.2)) (ofL b.2) = 0
    · refine Ev.bind (pPut_yes hk) ?_
      obtain ⟨k0, k1, k2⟩ := check_zero hk
      rw [ofL_size] at k2
      simp only [toList_data, ofL_toList, if_neg (fun h : _ ∧ _ ∧ putL (atoiV (ofL a.2)).toNat b.2 = s.data.toList => hno _ _ (by omega) k2 h.2.2.symm)]
      exact Ev.now _
    · refine Ev.bind (pPut_no hk) ?_
      simp only [if_neg (fun h : _ ∧ checkC (atoiV (ofL a.2)) (ofL b.2) = 0 ∧ _ => hk h.2.1)]
      exact Ev.now _
  · simp only [if_neg hc]
    exact Ev.now _
open Classical in
theorem rget_loop (L : List S39) (v : List UInt8) (t : ByteArray) (k0 : ByteArray) (k1 : ByteArray) (hL : L = [⟨k0, ofL v⟩, ⟨k1, t⟩]) : ∀ (d i : Nat), d + i = 4096 →
    Ev (fun k => legationref16_Get.l0 k L (i : Int)) (if ∃ m, i ≤ m ∧ m < 4096 ∧ v = dd m then (((v.foldl (fun s b => s * 10 + (b.toNat - 48)) 0 : Nat) : Int), t, true) else (0, ⟨#[]⟩, false)) := by
  subst hL
  intro d
  have fold_dd : ∀ m, m < 4096 → (dd m).foldl (fun s b => s * 10 + (b.toNat - 48)) 0 = m := by
    intro n h
    have key : ∀ a b : Fin 64, (dd (64 * a.val + b.val)).foldl (fun s b => s * 10 + (b.toNat - 48)) 0 = 64 * a.val + b.val := by decide +kernel
    have := key ⟨n / 64, by omega⟩ ⟨n % 64, by omega⟩
    simp only at this
    rwa [show 64 * (n / 64) + n % 64 = n by omega] at this
  induction d with
  | zero =>
    intro i hi
    refine Ev.step (fun k => by rw [legationref16_Get.l0]) ?_
    simp only [if_neg (show ¬ (i : Int) < 4096 by omega)]
    rw [if_neg (by rintro ⟨m, h1, h2, _⟩; omega)]
    exact Ev.now _
  | succ d ih =>
    intro i hi
    refine Ev.step (fun k => by rw [legationref16_Get.l0]) ?_
    simp only [if_pos (show (i : Int) < 4096 by omega)]
    refine Ev.bind (rDigits i (by omega)) ?_
    simp only [List.length_cons, List.length_nil, if_pos (show (0 : Int) < ((0 + 1 + 1 : Nat) : Int) by decide), if_pos (show (1 : Int) < ((0 + 1 + 1 : Nat) : Int) by decide), rd0, rd1, toList_data, ofL_toList, wrap_succ (show i < 4611686018427387904 by omega)]
    by_cases hv : dd i = v
    · subst hv
      simp only [if_true]
      rw [if_pos ⟨i, Nat.le_refl _, by omega, rfl⟩, fold_dd i (by omega)]
      exact Ev.now _
    · simp only [if_neg hv]
      have h := ih (i + 1) (by omega)
      have e : (∃ m, i + 1 ≤ m ∧ m < 4096 ∧ v = dd m) ↔ (∃ m, i ≤ m ∧ m < 4096 ∧ v = dd m) := by
        constructor
        · rintro ⟨m, h1, h2, h3⟩; exact ⟨m, by omega, h2, h3⟩
        · rintro ⟨m, h1, h2, h3⟩
          refine ⟨m, ?_, h2, h3⟩
          rcases Nat.lt_or_ge i m with h4 | h4
          · exact h4
          · obtain rfl : m = i := by omega
            exact absurd h3.symm hv
      by_cases hx : ∃ m, i ≤ m ∧ m < 4096 ∧ v = dd m
      · rw [if_pos hx]
        rw [if_pos (e.2 hx)] at h
        exact h
      · rw [if_neg hx]
        rw [if_neg (fun hy => hx (e.1 hy))] at h
        exact h
theorem rGet_yes (n : Nat) (t : List UInt8) (hn : n < 4096) (ht : t.length ≤ 4096) : Ev (fun k => legationref16_Get.f k (ofL (putL n t))) ((n : Int), ofL t, true) := by
  unfold legationref16_Get.f
  refine Ev.bind (rRead _ (by rw [ofL_size]; have := putL_length n t; omega)) ?_
  rw [ofL_toList, readL_put n t hn]
  simp only [List.length_cons, List.length_nil, if_pos (show ((0 + 1 + 1 : Nat) : Int) = 2 by decide), if_pos (show (0 : Int) < ((0 + 1 + 1 : Nat) : Int) by decide), if_pos (show (1 : Int) < ((0 + 1 + 1 : Nat) : Int) by decide), rd0, rd1, toPair_f0, toPair_f1, toList_data, ofL_toList, if_true]
  refine Ev.step (fun k => by rw [legationref16_Get.j0]) ?_
  simp only [ofL_size, decide_eq_false (show ¬ (t.length : Int) > 4096 by omega), Bool.false_eq_true, if_false]
  have h := rget_loop _ (dd n) (ofL t) (ofL [105, 100]) (ofL [113, 117, 101, 114, 121]) rfl 4096 0 rfl
  rw [if_pos ⟨n, by omega, hn, rfl⟩] at h
  have fold_dd : (dd n).foldl (fun s b => s * 10 + (b.toNat - 48)) 0 = n := by
    have key : ∀ a b : Fin 64, (dd (64 * a.val + b.val)).foldl (fun s b => s * 10 + (b.toNat - 48)) 0 = 64 * a.val + b.val := by decide +kernel
    have := key ⟨n / 64, by omega⟩ ⟨n % 64, by omega⟩
    simp only at this
    rwa [show 64 * (n / 64) + n % 64 = n by omega] at this
  rw [fold_dd] at h
  exact h
theorem rGet_no (s : ByteArray) (hs : s.size ≤ 4294967296) (hno : ∀ (n : Nat) (t : List UInt8), n < 4096 → t.length ≤ 4096 → s.data.toList ≠ putL n t) : ∃ y, Ev (fun k => legationref16_Get.f k s) y ∧ y.2.2 = false := by
  refine ⟨(0, ⟨#[]⟩, false), ?_, rfl⟩
  unfold legationref16_Get.f
  refine Ev.bind (rRead _ hs) ?_
  have bad : ∀ x : List S39, Ev (fun k => legationref16_Get.j0 k x true) (0, ⟨#[]⟩, false) := by
    intro x
    refine Ev.step (fun k => by rw [legationref16_Get.j0]) ?_
    simp only [if_true]
    exact Ev.now _
  by_cases h0 : (readL s.data.toList).2 = 0
  · simp only [if_pos h0]
    by_cases h2 : (readL s.data.toList).1.length = 2
    · obtain ⟨a, b, e1, e2⟩ := read_two (show readL s.data.toList = ((readL s.data.toList).1, 0) from Prod.ext rfl h0) h2
      rw [e1]
      simp only [List.length_cons, List.length_nil, if_pos (show ((0 + 1 + 1 : Nat) : Int) = 2 by decide), if_pos (show (0 : Int) < ((0 + 1 + 1 : Nat) : Int) by decide), if_pos (show (1 : Int) < ((0 + 1 + 1 : Nat) : Int) by decide), rd0, rd1, toPair_f0, toPair_f1, toList_data, ofL_toList]
      by_cases h3 : a.1 = [105, 100]
      · simp only [if_pos h3]
        by_cases h4 : b.1 = [113, 117, 101, 114, 121]
        · simp only [if_pos h4]
          by_cases h5 : b.2.length ≤ 4096
          · refine Ev.step (fun k => by rw [legationref16_Get.j0]) ?_
            simp only [ofL_size, decide_eq_false (show ¬ (b.2.length : Int) > 4096 by omega), Bool.false_eq_true, if_false]
            have h := rget_loop [toPair a, toPair b] a.2 (ofL b.2) (ofL a.1) (ofL b.1) rfl 4096 0 rfl
            rw [if_neg] at h
            · exact h
            · rintro ⟨m, _, hm, hv⟩
              refine hno m b.2 hm h5 ?_
              rw [e2]
              unfold encP putL
              rw [h3, h4, hv, enc_dd m hm, show enc [105, 100] = [105, 100] by decide, show enc [113, 117, 101, 114, 121] = [113, 117, 101, 114, 121] by decide]
              simp
          · simp only [ofL_size, decide_eq_true (show (b.2.length : Int) > 4096 by omega)]
            exact bad _
        · simp only [if_neg h4]
          exact bad _
      · simp only [if_neg h3]
        exact bad _
    · simp only [if_neg (show ¬ ((readL s.data.toList).1.length : Int) = 2 by omega)]
      exact bad _
  · simp only [if_neg h0]
    exact bad _
theorem awake : Ev (fun k => legationlaw16_awake.f k) true := by
  unfold legationlaw16_awake.f
  have e : putL 7 [65, 83, 75, 32, 123, 32, 125] = [105, 100, 61, 55, 38, 113, 117, 101, 114, 121, 61, 65, 83, 75, 37, 50, 48, 37, 55, 66, 37, 50, 48, 37, 55, 68] := by decide +kernel
  have h1 := pPut_yes (n := 7) (t := ofL [65, 83, 75, 32, 123, 32, 125]) (by decide)
  have h2 := pGet_yes 7 [65, 83, 75, 32, 123, 32, 125] (by omega) (by decide)
  rw [ofL_toList, show (7 : Int).toNat = 7 from rfl, e] at h1
  rw [e] at h2
  refine Ev.bind h1 ?_
  refine Ev.bind h2 ?_
  simp only [toList_data, ofL_toList, if_true]
  exact Ev.now _

/-! ### the laws -/
theorem law_Puts (n : Int) (t : ByteArray) : ∃ k, legationlaw16_RequestPuts.f k n t = some true := by
  apply Ev.rounds
  unfold legationlaw16_RequestPuts.f
  by_cases h : checkC n t = 0
  · refine Ev.bind (pPut_yes h) ?_
    refine Ev.bind (rCheck n t) ?_
    simp only [h, if_true]
    refine Ev.bind (pCheck n t) ?_
    refine Ev.step (fun k => by rw [legationlaw16_RequestPuts.j0]) ?_
    rw [h]
    simp only [show ((0 : Int) != 0) = false from rfl, Bool.false_eq_true, if_false, if_true]
    obtain ⟨h0, h1, h2⟩ := check_zero h
    obtain ⟨m, rfl⟩ : ∃ m : Nat, n = m := ⟨n.toNat, by omega⟩
    refine Ev.bind (rPut m t (by omega) (by omega)) ?_
    simp only [Int.toNat_natCast, if_true]
    refine Ev.bind awake ?_
    exact Ev.now _
  · refine Ev.bind (pPut_no h) ?_
    refine Ev.bind (rCheck n t) ?_
    simp only [if_true]
    refine Ev.bind (pCheck n t) ?_
    refine Ev.step (fun k => by rw [legationlaw16_RequestPuts.j0]) ?_
    simp only [bne_self_eq_false, Bool.false_eq_true, if_false, if_neg h, toList_data, if_true]
    refine Ev.bind awake ?_
    exact Ev.now _
theorem law_Gets (s : ByteArray) (hs : s.size < 4294967281) : ∃ k, legationlaw16_RequestGets.f k s = some true := by
  apply Ev.rounds
  unfold legationlaw16_RequestGets.f
  by_cases h : ∃ (n : Nat) (t : List UInt8), n < 4096 ∧ t.length ≤ 4096 ∧ s.data.toList = putL n t
  · obtain ⟨n, t, hn, ht, e⟩ := h
    obtain rfl : s = ofL (putL n t) := by rw [← e, ofL_data]
    refine Ev.bind (pGet_yes n t hn ht) ?_
    refine Ev.bind (rGet_yes n t hn ht) ?_
    simp only [BEq.rfl, Bool.and_self, if_true]
    refine Ev.bind awake ?_
    exact Ev.now _
  · have hno : ∀ (n : Nat) (t : List UInt8), n < 4096 → t.length ≤ 4096 → s.data.toList ≠ putL n t := fun n t hn ht e => h ⟨n, t, hn, ht, e⟩
    obtain ⟨y, hy, hf⟩ := rGet_no s (by omega) hno
    refine Ev.bind (pGet_no s hs hno) ?_
    refine Ev.bind hy ?_
    simp only [hf, Bool.false_eq_true, if_false, toList_data, BEq.rfl, Bool.and_self, if_true]
    refine Ev.bind awake ?_
    exact Ev.now _
theorem law_Back (n : Int) (t s : ByteArray) (hs : s.size < 4294967281) : ∃ k, legationlaw16_RequestBack.f k n t s = some true := by
  apply Ev.rounds
  unfold legationlaw16_RequestBack.f
  have key : Ev (fun k => legationlaw16_RequestBack.j0 k s) true := by
    refine Ev.step (fun k => by rw [legationlaw16_RequestBack.j0]) ?_
    by_cases h : ∃ (n : Nat) (t : List UInt8), n < 4096 ∧ t.length ≤ 4096 ∧ s.data.toList = putL n t
    · obtain ⟨n, t, hn, ht, e⟩ := h
      obtain rfl : s = ofL (putL n t) := by rw [← e, ofL_data]
      refine Ev.bind (pGet_yes n t hn ht) ?_
      simp only [if_true]
      refine Ev.bind (pPut_yes (check_of hn ht)) ?_
      simp only [Int.toNat_natCast, ofL_toList, if_true]
      refine Ev.bind awake ?_
      exact Ev.now _
    · have hno : ∀ (n : Nat) (t : List UInt8), n < 4096 → t.length ≤ 4096 → s.data.toList ≠ putL n t := fun n t hn ht e => h ⟨n, t, hn, ht, e⟩
      refine Ev.bind (pGet_no s hs hno) ?_
      simp only [if_neg (show ¬ (2 : Int) = 0 by decide)]
      refine Ev.bind awake ?_
      exact Ev.now _
  by_cases h : checkC n t = 0
  · refine Ev.bind (pPut_yes h) ?_
    obtain ⟨h0, h1, h2⟩ := check_zero h
    obtain ⟨m, rfl⟩ : ∃ m : Nat, n = m := ⟨n.toNat, by omega⟩
    simp only [if_true, Int.toNat_natCast]
    refine Ev.bind (pGet_yes m t.data.toList (by omega) (by rw [size_toList]; exact h2)) ?_
    simp only [if_true, ofL_data, BEq.rfl, Bool.not_true, Bool.or_self, Bool.false_eq_true, if_false]
    exact key
  · refine Ev.bind (pPut_no h) ?_
    simp only [if_neg h]
    exact key
end Go.Proofs.YtlkpdfbmklanoaaDoor.Q
