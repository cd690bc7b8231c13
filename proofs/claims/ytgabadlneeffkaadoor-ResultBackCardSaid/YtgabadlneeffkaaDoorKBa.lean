/- What result.Get comes to at any bytes: something; and where it errs not, Put gives the bytes back. -/
import Derived.Test.YtgabadlneeffkaaDoorKPg
namespace Go.Proofs.YtgabadlneeffkaaDoor.B
open Go.RowKit Go.Lib Go.Proofs.YtgabadlneeffkaaDoor Go.Proofs.YtgabadlneeffkaaDoorW.PrintWords Go.Proofs.YtgabadlneeffkaaDoorW.PrintLast
set_option linter.unusedVariables false
set_option linter.unusedSimpArgs false
theorem splitC_le (c : UInt8) : ∀ (l x : List UInt8), x ∈ splitC c l → x.length ≤ l.length
  | [], x, h => by simp [splitC] at h; simp [h]
  | b :: r, x, h => by
    unfold splitC at h
    by_cases e : b = c
    · rw [if_pos e] at h
      rcases List.mem_cons.1 h with rfl | h
      · simp
      have := splitC_le c r x h
      rw [List.length_cons]; omega
    rw [if_neg e] at h
    split at h
    · rename_i y t ht
      rcases List.mem_cons.1 h with rfl | h
      · have := splitC_le c r y (by rw [ht]; simp)
        simp; exact this
      have := splitC_le c r x (by rw [ht]; exact List.mem_cons_of_mem _ h)
      rw [List.length_cons]; omega
    rename_i ht
    exact absurd ht (splitC_ne c r)
theorem splitC_few (c : UInt8) (l : List UInt8) : (splitC c l).length ≤ l.length + 1 := by
  rw [splitC_length]
  have := List.count_le_length (a := c) (l := l)
  omega
def small (l : List ByteArray) : Prop := ∀ x ∈ l, x.size ≤ 70000
theorem small_split (c : UInt8) (s : ByteArray) (h : s.size ≤ 70000) : ∃ l, strings_Split.f s (ofL [c]) = some l ∧ small l ∧ l.length ≤ 70001 ∧ 1 ≤ l.length := by
  refine ⟨_, split_eq' s c (by omega), ?_, ?_, ?_⟩
  · intro x hx
    obtain ⟨y, hy, rfl⟩ := List.mem_map.1 hx
    have := splitC_le c _ y hy
    rw [size_toList] at this
    rw [ofL_size]; omega
  · have := splitC_few c s.data.toList
    rw [size_toList] at this
    rw [List.length_map]; omega
  rw [List.length_map, splitC_length]; omega
theorem small_at {l : List ByteArray} (h : small l) (i : Int) : (rdOf ByteArray.empty l i).size ≤ 70000 := by
  unfold rdOf
  rw [List.getD_eq_getElem?_getD]
  cases hi : l[i.toNat]? with
  | none => simp
  | some x => exact h x (List.mem_of_getElem? hi)
theorem read_any (s : ByteArray) (h : s.size ≤ 70000) : ∃ v, Ev (fun k => term_Read.f k s) v := by
  unfold term_Read.f
  have hp := prefix_ev 70000 s h (by omega)
  by_cases hv : (preV s.size (tpre s.data.toList)).2.2.2.2 = (s.size : Int)
  · exact ⟨_, Ev.bind hp (Ev.congr (fun k => if_pos hv) (Ev.now _))⟩
  exact ⟨_, Ev.bind hp (Ev.congr (fun k => if_neg hv) (Ev.now _))⟩
abbrev TV := List ByteArray × List (List S43) × Bool
theorem cells_any (vars : List ByteArray) (Y : List ByteArray) (i : Nat) (hi : i < 9223372036854775807) (accR : List (List S43)) (hR : accR.length < 5864062014805) (P : List ByteArray) (hP : small P) (hPl : P.length ≤ 70001) (Qv : TV → Prop) (hq : Qv (vars, accR, false))
    (hn : ∀ row : List S43, ∃ v, Ev (fun k => result_rows.l1 k Y (Y.length : Int) ((i + 1 : Nat) : Int) vars (accR ++ [row])) v ∧ Qv v) :
    ∀ (r : List ByteArray) (j : Nat) (acc : List S43), P.drop j = r → acc.length ≤ j →
    ∃ v, Ev (fun k => result_rows.l2 k acc Y (Y.length : Int) (i : Int) P (P.length : Int) (j : Int) vars accR) v ∧ Qv v := by
  intro r
  induction r with
  | nil =>
    intro j acc hd ha
    have := len_of_drop hd
    obtain ⟨v, hv, hqv⟩ := hn acc
    refine ⟨v, ?_, hqv⟩
    refine Ev.step (fun k => by rw [result_rows.l2]) ?_
    simp only [if_neg (show ¬ ((j : Int) < (P.length : Int)) by omega), if_pos hR, wrap_succ hi]
    exact hv
  | cons c r ih =>
    intro j acc hd ha
    obtain ⟨hg, hj, hr, _⟩ := get_of_drop hd ByteArray.empty
    have e : rdOf ByteArray.empty P (j : Int) = c := hg
    have hc : c.size ≤ 70000 := by rw [← e]; exact small_at hP _
    obtain ⟨x, hx⟩ := read_any c hc
    have key : ∃ v, Ev (fun k => if x.2.2.2.2 = 0 then (if acc.length < 2513169434916 then result_rows.l2 k (acc ++ [(⟨x.1, x.2.1, x.2.2.1, x.2.2.2.1⟩ : S43)]) Y (Y.length : Int) (i : Int) P (P.length : Int) ((j + 1 : Nat) : Int) vars accR else none) else some (vars, accR, false)) v ∧ Qv v := by
      by_cases h0 : x.2.2.2.2 = 0
      · simp only [if_pos h0, if_pos (show acc.length < 2513169434916 by omega)]
        exact ih (j + 1) _ hr (by simp; omega)
      exact ⟨_, Ev.congr (fun k => if_neg h0) (Ev.now _), hq⟩
    obtain ⟨v, hv, hqv⟩ := key
    refine ⟨v, ?_, hqv⟩
    refine Ev.step (fun k => by rw [result_rows.l2]) ?_
    simp only [if_pos (show (j : Int) < (P.length : Int) by omega), if_pos (show (0 : Int) ≤ (j : Int) by omega), e, wrap_succ (show j < 9223372036854775807 by omega)]
    exact Ev.bind hx hv
theorem split_any (s : ByteArray) (h : s.size ≤ 70000) (n : Int) : ∃ l, result_split.f s n = some l ∧ small l ∧ l.length ≤ 70001 := by
  obtain ⟨l, hl, h1, h2, _⟩ := small_split 9 s h
  rw [show ofL [9] = (⟨#[9]⟩ : ByteArray) from rfl] at hl
  unfold result_split.f
  rw [hl]
  by_cases h0 : n = 0
  · rw [if_pos h0]
    by_cases he : s.toList = []
    · rw [if_pos he]; exact ⟨[], rfl, (fun x hx => absurd hx (by simp)), by simp⟩
    rw [if_neg he]; exact ⟨l, rfl, h1, h2⟩
  rw [if_neg h0]; exact ⟨l, rfl, h1, h2⟩
theorem lines_any (vars : List ByteArray) (Y : List ByteArray) (hY : small Y) (hYl : Y.length ≤ 70001) : ∀ (r : List ByteArray) (i : Nat) (acc : List (List S43)), Y.drop i = r → acc.length ≤ i → i ≤ Y.length →
    ∃ v, Ev (fun k => result_rows.l1 k Y (Y.length : Int) (i : Int) vars acc) v ∧ v.2.1.length ≤ 70001 := by
  intro r
  induction r with
  | nil =>
    intro i acc hd ha hi
    have := len_of_drop hd
    refine ⟨(vars, acc, true), ?_, by show acc.length ≤ 70001; omega⟩
    refine Ev.step (fun k => by rw [result_rows.l1]) ?_
    simp only [if_neg (show ¬ ((i : Int) < (Y.length : Int)) by omega)]
    exact Ev.now _
  | cons c r ih =>
    intro i acc hd ha hil
    obtain ⟨hg, hi, hr, _⟩ := get_of_drop hd ByteArray.empty
    have e : rdOf ByteArray.empty Y (i : Int) = c := hg
    have hc : c.size ≤ 70000 := by rw [← e]; exact small_at hY _
    obtain ⟨P, hP, hPs, hPl⟩ := split_any c hc (vars.length : Int)
    obtain ⟨v, hv, hq⟩ := cells_any vars Y i (by omega) acc (by omega) P hPs hPl (fun v => v.2.1.length ≤ 70001) (by show acc.length ≤ 70001; omega)
      (fun row => ih (i + 1) (acc ++ [row]) hr (by simp; omega) (by omega)) P 0 [] rfl (by simp)
    refine ⟨v, ?_, hq⟩
    refine Ev.step (fun k => by rw [result_rows.l1]) ?_
    simp only [if_pos (show (i : Int) < (Y.length : Int) by omega), if_pos (show (0 : Int) ≤ (i : Int) by omega), e, hP, Option.bind_some]
    exact hv
theorem names_any (X : List ByteArray) (P : List ByteArray) (hPl : P.length ≤ 70001) (hn : ∀ vars : List ByteArray, ∃ v, Ev (fun k => result_rows.j1 k X vars) v ∧ v.2.1.length ≤ 70001) : ∀ (r : List ByteArray) (i : Nat) (acc : List ByteArray), P.drop i = r → acc.length ≤ i →
    ∃ v, Ev (fun k => result_rows.l0 k X P (P.length : Int) (i : Int) acc) v ∧ v.2.1.length ≤ 70001 := by
  intro r
  induction r with
  | nil =>
    intro i acc hd ha
    have := len_of_drop hd
    obtain ⟨v, hv, hq⟩ := hn acc
    refine ⟨v, ?_, hq⟩
    refine Ev.step (fun k => by rw [result_rows.l0]) ?_
    simp only [if_neg (show ¬ ((i : Int) < (P.length : Int)) by omega)]
    exact hv
  | cons c r ih =>
    intro i acc hd ha
    obtain ⟨hg, hi, hr, _⟩ := get_of_drop hd ByteArray.empty
    have e : rdOf ByteArray.empty P (i : Int) = c := hg
    by_cases hp : Lib.hasPrefix c.data.toList [63] = true
    · have hc1 : 1 ≤ c.size := by
        rw [← size_toList]
        cases hl : c.data.toList with
        | nil => rw [hl] at hp; exact absurd hp (by decide)
        | cons a l => simp
      obtain ⟨v, hv, hq⟩ := ih (i + 1) (acc ++ [c.extract 1 c.size]) hr (by simp; omega)
      refine ⟨v, ?_, hq⟩
      refine Ev.step (fun k => by rw [result_rows.l0]) ?_
      have hpf : strings_HasPrefix.f c (⟨#[63]⟩ : ByteArray) = some true := by unfold strings_HasPrefix.f; exact congrArg some hp
      simp only [if_pos (show (i : Int) < (P.length : Int) by omega), if_pos (show (0 : Int) ≤ (i : Int) by omega), e, hpf, Option.bind_some, if_true, if_pos (show (1 : Int) ≤ (c.size : Int) by omega), if_pos (show acc.length < 8796093022208 by omega), wrap_succ (show i < 9223372036854775807 by omega)]
      exact hv
    refine ⟨(acc, [], false), ?_, by simp⟩
    refine Ev.step (fun k => by rw [result_rows.l0]) ?_
    have hpf : strings_HasPrefix.f c (⟨#[63]⟩ : ByteArray) = some false := by unfold strings_HasPrefix.f; exact congrArg some (by simpa using hp)
    simp only [if_pos (show (i : Int) < (P.length : Int) by omega), if_pos (show (0 : Int) ≤ (i : Int) by omega), e, hpf, Option.bind_some, Bool.false_eq_true, if_false]
    exact Ev.now _
theorem rows_any (X : List ByteArray) (hX : small X) (hXl : X.length ≤ 70001) : ∃ v, Ev (fun k => result_rows.f k X) v ∧ v.2.1.length ≤ 70001 := by
  unfold result_rows.f
  by_cases h0 : X.length = 0
  · exact ⟨([], [], false), Ev.congr (fun k => if_pos (by omega)) (Ev.now _), by simp⟩
  have hj : ∀ vars : List ByteArray, ∃ v, Ev (fun k => result_rows.j1 k X vars) v ∧ v.2.1.length ≤ 70001 := by
    intro vars
    obtain ⟨v, hv, hq⟩ := lines_any vars (X.drop 1) (fun x hx => hX x (List.mem_of_mem_drop hx)) (by rw [List.length_drop]; omega) (X.drop 1) 0 [] rfl (by simp) (by omega)
    refine ⟨v, ?_, hq⟩
    refine Ev.step (fun k => by rw [result_rows.j1]) ?_
    simp only [if_pos (show (1 : Int) ≤ (X.length : Int) by omega), Option.bind_some]
    exact hv
  by_cases he : (rdOf ByteArray.empty X 0).toList = []
  · obtain ⟨v, hv, hq⟩ := hj []
    exact ⟨v, Ev.congr (fun k => (if_neg (by omega)).trans ((if_pos (by omega)).trans (if_pos he))) hv, hq⟩
  obtain ⟨P, hP, hPs, hPl, _⟩ := small_split 9 (rdOf ByteArray.empty X 0) (small_at hX 0)
  rw [show ofL [9] = (⟨#[9]⟩ : ByteArray) from rfl] at hP
  obtain ⟨v, hv, hq⟩ := names_any X P hPl hj P 0 [] rfl (by simp)
  refine ⟨v, Ev.congr (fun k => (if_neg (by omega)).trans ((if_pos (by omega)).trans (if_neg he))) ?_, hq⟩
  rw [hP]
  exact hv
theorem mid_any (L : List ByteArray) (hL : small L) (hLl : L.length ≤ 70001) (a : Bool) : ∃ m, Ev (fun k => getMid k L a) m ∧ m.2.2.1.length ≤ 70001 := by
  unfold getMid
  by_cases h1 : (rdOf ByteArray.empty L 1).toList = [114, 111, 119, 115]
  · obtain ⟨v, hv, hq⟩ := rows_any (L.drop 2) (fun x hx => hL x (List.mem_of_mem_drop hx)) (by rw [List.length_drop]; omega)
    exact ⟨_, Ev.congr (fun k => if_pos h1) (Ev.bind hv (Ev.now _)), hq⟩
  by_cases h2 : Lib.hasPrefix (rdOf ByteArray.empty L 1).data.toList [101, 114, 114, 111, 114, 32] = true
  · have hz := small_at hL 1
    have h6 : 6 ≤ (rdOf ByteArray.empty L 1).size := by
      rw [← size_toList]
      unfold Lib.hasPrefix at h2
      have := (List.isPrefixOf_iff_prefix.1 h2).length_le
      simpa using this
    have he : ((rdOf ByteArray.empty L 1).extract 6 (rdOf ByteArray.empty L 1).size).size ≤ 281474976710656 := by
      rw [ext_end, ofL_size, List.length_drop, size_toList]; omega
    exact ⟨_, Ev.congr (fun k => (if_neg h1).trans ((if_pos h2).trans (if_pos ⟨h6, he⟩))) (Ev.now _), by simp⟩
  exact ⟨_, Ev.congr (fun k => (if_neg h1).trans (if_neg h2)) (Ev.now _), by simp⟩
abbrev GV := Int × Int × List ByteArray × List (List S43) × Bool × Int × Int
theorem get_any (b : ByteArray) : ∃ v : GV, Ev (fun k => result_Get.f k b) v ∧ (v.2.2.2.2.2.2 = 0 → ∃ y : ByteArray × Int, Ev (fun k => result_Put.f k v.1 v.2.1 v.2.2.1 v.2.2.2.1 v.2.2.2.2.1 v.2.2.2.2.2.1) y ∧ y.2 = 0 ∧ y.1.toList = b.toList) := by
  unfold result_Get.f
  by_cases hz : b.size > 65536
  · exact ⟨(0, 0, [], [], false, 0, 3), Ev.congr (fun k => if_pos (by omega)) (Ev.now _), fun h => absurd h (by decide)⟩
  obtain ⟨l, hl, hs, hll, hl1⟩ := small_split 10 b (by omega)
  rw [show ofL [10] = (⟨#[10]⟩ : ByteArray) from rfl] at hl
  rw [hl]
  simp only [if_neg (show ¬ ((b.size : Int) > 65536) by omega), Option.bind_some, if_pos (show l.length < 4611686018427387904 by omega)]
  by_cases h3 : (l.length : Int) < 3
  · exact ⟨(0, 0, [], [], false, 0, 2), Ev.congr (fun k => if_pos h3) (Ev.now _), fun h => absurd h (by decide)⟩
  by_cases he : (rdOf ByteArray.empty l ((l.length : Int) - 1)).toList = []
  case neg => exact ⟨(0, 0, [], [], false, 0, 2), Ev.congr (fun k => (if_neg h3).trans (if_neg he)) (Ev.now _), fun h => absurd h (by decide)⟩
  have hLs : small (l.take (l.length - 1)) := fun x hx => hs x (List.mem_of_mem_take hx)
  have hLl : (l.take (l.length - 1)).length ≤ 70001 := by rw [List.length_take]; omega
  obtain ⟨m, hm, hq⟩ := mid_any (l.take (l.length - 1)) hLs hLl (atoiOk (rdOf ByteArray.empty (l.take (l.length - 1)) 0))
  have hp := put_ev (atoiV (rdOf ByteArray.empty (l.take (l.length - 1)) 0)) m.1 m.2.1 m.2.2.1 (by omega) m.2.2.2.1 m.2.2.2.2.1
  generalize (if chk (atoiV (rdOf ByteArray.empty (l.take (l.length - 1)) 0)) m.1 m.2.1 m.2.2.1 m.2.2.2.1 m.2.2.2.2.1 = 0 then finL (bytesL (atoiV (rdOf ByteArray.empty (l.take (l.length - 1)) 0)).toNat m.1 m.2.1 m.2.2.1 m.2.2.2.1 m.2.2.2.2.1.toNat) else ((⟨#[]⟩ : ByteArray), chk (atoiV (rdOf ByteArray.empty (l.take (l.length - 1)) 0)) m.1 m.2.1 m.2.2.1 m.2.2.2.1 m.2.2.2.2.1)) = y at hp
  have hsz : (rdOf ByteArray.empty (l.take (l.length - 1)) 0).size ≤ 281474976710656 := by have := small_at hLs 0; omega
  by_cases hg : m.2.2.2.2.2 = true ∧ y.2 = 0 ∧ y.1.toList = b.toList
  · refine ⟨(atoiV (rdOf ByteArray.empty (l.take (l.length - 1)) 0), m.1, m.2.1, m.2.2.1, m.2.2.2.1, m.2.2.2.2.1, 0), Ev.congr (fun k => (if_neg h3).trans (if_pos he)) ?_, fun _ => ⟨y, hp, hg.2⟩⟩
    unfold getRest
    simp only [if_pos hsz]
    exact Ev.bind hm (Ev.bind hp (Ev.congr (fun k => if_pos hg) (Ev.now _)))
  refine ⟨(0, 0, [], [], false, 0, 2), Ev.congr (fun k => (if_neg h3).trans (if_pos he)) ?_, fun h => absurd h (by decide)⟩
  unfold getRest
  simp only [if_pos hsz]
  exact Ev.bind hm (Ev.bind hp (Ev.congr (fun k => if_neg hg) (Ev.now _)))
end Go.Proofs.YtgabadlneeffkaaDoor.B
