/- The tasks of a code: none is among those that another one needs, and they have all of its patterns. -/
import Derived.Test.YtcfoebkbahpnaaaQPc
namespace Go.Proofs.Ytcfoebkbahpnaaa.K
open Go.RowKit Go.Lib Go.Proofs.Ytcfoebkbahpnaaa Go.Proofs.YtcfoebkbahpnaaaW.PrintWords Go.Proofs.YtcfoebkbahpnaaaW.PrintLast
set_option linter.unusedVariables false
set_option linter.unusedSimpArgs false

/-! ### the reference's place where parts begin -/
theorem dep_bd (c : List S45) : ∀ j, -((2 * j : Nat) : Int) ≤ dep c j ∧ dep c j ≤ ((2 * j : Nat) : Int)
  | 0 => by rw [dep_zero]; omega
  | j + 1 => by
    have ih := dep_bd c j
    rcases Nat.lt_or_ge j c.length with h | h
    · have hd := List.drop_eq_getElem_cons h
      have := dep_succ hd
      have := opNeeds_le c[j].f0
      omega
    have : dep c (j + 1) = dep c j := by unfold dep; rw [List.take_of_length_le (by omega), List.take_of_length_le h]
    omega
theorem rFrom_loop (c : List S45) (hc : c.length ≤ 128) (f t : Nat) (ht : t < c.length) (hj : ∀ j, f < j → j ≤ t → dep c f + 1 ≤ dep c j) : ∀ (d j : Nat), j = f + d → j ≤ t →
    Ev (fun k => legationref07_From.l0 k c (dep c (j + 1) - dep c f) (j : Int)) (f : Int) := by
  intro d
  induction d with
  | zero =>
    intro j hjd hjt
    have hjf : j = f := by omega
    subst hjf
    have hd := List.drop_eq_getElem_cons (show j < c.length by omega)
    obtain ⟨hg, _, _, _⟩ := get_of_drop hd z45
    have e : rd_T45 c (j : Int) = c[j] := hg
    have hds := dep_succ hd
    have hle := opNeeds_le c[j].f0
    refine Ev.step (fun k => by rw [legationref07_From.l0]) ?_
    simp only [if_pos (show (j : Int) ≥ 0 by omega), if_pos (show (0 : Int) ≤ (j : Int) by omega), if_pos (show (j : Int) < (c.length : Int) by omega), e]
    refine Ev.bind (rneeds_ev _ _ _ _ _ _ _) ?_
    simp only [show wrap64 (wrap64 (dep c (j + 1) - dep c j + opNeeds c[j].f0) - 1) = 0 by unfold wrap64; omega, if_true]
    exact Ev.now _
  | succ d ih =>
    intro j hjd hjt
    have hd := List.drop_eq_getElem_cons (show j < c.length by omega)
    obtain ⟨hg, _, _, _⟩ := get_of_drop hd z45
    have e : rd_T45 c (j : Int) = c[j] := hg
    have hds := dep_succ hd
    have hle := opNeeds_le c[j].f0
    have b1 := dep_bd c j
    have b2 := dep_bd c f
    have b3 := dep_bd c (j + 1)
    have h1 := hj j (by omega) hjt
    refine Ev.step (fun k => by rw [legationref07_From.l0]) ?_
    simp only [if_pos (show (j : Int) ≥ 0 by omega), if_pos (show (0 : Int) ≤ (j : Int) by omega), if_pos (show (j : Int) < (c.length : Int) by omega), e]
    refine Ev.bind (rneeds_ev _ _ _ _ _ _ _) ?_
    have hw : wrap64 (wrap64 (dep c (j + 1) - dep c f + opNeeds c[j].f0) - 1) = dep c j - dep c f := by unfold wrap64; omega
    simp only [hw, if_neg (show ¬ dep c j - dep c f = 0 by omega)]
    obtain ⟨i, rfl⟩ : ∃ i, j = i + 1 := ⟨j - 1, by omega⟩
    rw [show wrap64 (((i + 1 : Nat) : Int) - 1) = (i : Int) by unfold wrap64; omega]
    exact ih i (by omega) (by omega)
theorem rFrom_ev {c : List S45} (hc : c.length ≤ 128) {t : Nat} (ht : t < c.length) {F : Int} (h : FromAt c t F) : Ev (fun k => legationref07_From.f k c (t : Int)) F := by
  obtain ⟨f, rfl, hft, hd, hj, _⟩ := h
  unfold legationref07_From.f
  have := rFrom_loop c hc f t ht hj (t - f) t (by omega) (Nat.le_refl _)
  rw [show dep c (t + 1) - dep c f = 1 by omega] at this
  exact this
/-! ### the tasks -/
def tasksP (c : List S45) (fs : List Int) (names : List ByteArray) : Nat → List S45 → List S38
  | _, [] => []
  | i, o :: r =>
    if taskInn c fs c.length i = true then tasksP c fs names (i + 1) r
    else if o.f0 = 1 ∧ 0 < o.f1.length then ⟨i, o.f1, -2, false, []⟩ :: tasksP c fs names (i + 1) r
    else if o.f0 = 9 then ⟨i, [], idxOf o.f4.data.toList (B names) 0, o.f5, (c.take i).drop (fs.getD i 0).toNat⟩ :: tasksP c fs names (i + 1) r
    else tasksP c fs names (i + 1) r
theorem tasksGo_ev (c : List S45) (fs : List Int) (names : List ByteArray) (hn : names.length ≤ 9223372036854775807) : ∀ (r : List S45) (i : Nat) (out : List S38),
    Ev (fun k => tasksGo k c fs names i r out) (out ++ tasksP c fs names i r)
  | [], i, out => by simp only [tasksGo, tasksP, List.append_nil]; exact Ev.now _
  | o :: r, i, out => by
    simp only [tasksGo, tasksP]
    by_cases h1 : taskInn c fs c.length i = true
    · simp only [if_pos h1]; exact tasksGo_ev c fs names hn r (i + 1) out
    simp only [if_neg h1]
    by_cases h2 : o.f0 = 1 ∧ 0 < o.f1.length
    · simp only [if_pos h2]
      have := tasksGo_ev c fs names hn r (i + 1) (out ++ [⟨i, o.f1, -2, false, []⟩])
      rw [List.append_assoc] at this
      exact this
    simp only [if_neg h2]
    by_cases h9 : o.f0 = 9
    · simp only [if_pos h9]
      refine Ev.bind (index_loop names hn o.f4 names 0 rfl) ?_
      have := tasksGo_ev c fs names hn r (i + 1) (out ++ [⟨i, [], idxOf o.f4.data.toList (B names) 0, o.f5, (c.take i).drop (fs.getD i 0).toNat⟩])
      rw [List.append_assoc] at this
      exact this
    simp only [if_neg h9]
    exact tasksGo_ev c fs names hn r (i + 1) out
/-- what each task is: of an operation that is in no service's parts; of patterns, or of a service -/
theorem tasksP_mem (c : List S45) (fs : List Int) (names : List ByteArray) : ∀ (r : List S45) (i : Nat), c.drop i = r → ∀ e ∈ tasksP c fs names i r, ∃ j : Nat, i ≤ j ∧ j < c.length ∧ e.f0 = (j : Int) ∧ taskInn c fs c.length j = false ∧ (e.f2 ≠ -2 → isSv c j)
  | [], i, hd, e, he => by cases he
  | o :: r, i, hd, e, he => by
    obtain ⟨hg, hi, hr, _⟩ := get_of_drop hd z45
    rw [Int.toNat_natCast] at hg
    have hrec := tasksP_mem c fs names r (i + 1) hr
    have up : (∃ j : Nat, i + 1 ≤ j ∧ j < c.length ∧ e.f0 = (j : Int) ∧ taskInn c fs c.length j = false ∧ (e.f2 ≠ -2 → isSv c j)) → ∃ j : Nat, i ≤ j ∧ j < c.length ∧ e.f0 = (j : Int) ∧ taskInn c fs c.length j = false ∧ (e.f2 ≠ -2 → isSv c j) := fun ⟨j, h1, h2⟩ => ⟨j, by omega, h2⟩
    rw [tasksP] at he
    by_cases h1 : taskInn c fs c.length i = true
    · rw [if_pos h1] at he; exact up (hrec e he)
    rw [if_neg h1] at he
    have h1' : taskInn c fs c.length i = false := by simpa using h1
    by_cases h2 : o.f0 = 1 ∧ 0 < o.f1.length
    · rw [if_pos h2] at he
      rcases List.mem_cons.1 he with rfl | he
      · exact ⟨i, Nat.le_refl _, hi, rfl, h1', fun h => absurd rfl h⟩
      exact up (hrec e he)
    rw [if_neg h2] at he
    by_cases h9 : o.f0 = 9
    · rw [if_pos h9] at he
      rcases List.mem_cons.1 he with rfl | he
      · exact ⟨i, Nat.le_refl _, hi, rfl, h1', fun _ => by unfold isSv; rwa [hg]⟩
      exact up (hrec e he)
    rw [if_neg h9] at he; exact up (hrec e he)
theorem tasksP_rising (c : List S45) (fs : List Int) (names : List ByteArray) : ∀ (r : List S45) (i : Nat), c.drop i = r → (tasksP c fs names i r).Pairwise (fun a b => a.f0 < b.f0)
  | [], i, hd => List.Pairwise.nil
  | o :: r, i, hd => by
    obtain ⟨hg, hi, hr, _⟩ := get_of_drop hd z45
    have hrec := tasksP_rising c fs names r (i + 1) hr
    have mem := tasksP_mem c fs names r (i + 1) hr
    have front : ∀ e ∈ tasksP c fs names (i + 1) r, (i : Int) < e.f0 := fun e he => by
      obtain ⟨j, h1, _, h2, _⟩ := mem e he
      omega
    rw [tasksP]
    repeat' split
    · exact hrec
    · exact List.pairwise_cons.2 ⟨front, hrec⟩
    · exact List.pairwise_cons.2 ⟨front, hrec⟩
    exact hrec
/-! ### how many patterns -/
def sumN (g : Nat → Nat) : Nat → Nat
  | 0 => 0
  | n + 1 => sumN g n + g n
theorem sumN_congr {g g' : Nat → Nat} : ∀ {n : Nat}, (∀ j, j < n → g j = g' j) → sumN g n = sumN g' n
  | 0, _ => rfl
  | n + 1, h => by rw [sumN, sumN, sumN_congr (fun j hj => h j (by omega)), h n (by omega)]
theorem sumN_add {g g' : Nat → Nat} : ∀ {n : Nat}, sumN (fun j => g j + g' j) n = sumN g n + sumN g' n
  | 0 => rfl
  | n + 1 => by rw [sumN, sumN, sumN, sumN_add]; omega
theorem sumN_zero : ∀ n, sumN (fun _ => 0) n = 0
  | 0 => rfl
  | n + 1 => by rw [sumN, sumN_zero n]
def cnt (l : List S45) : Nat := (l.map fun o => o.f1.length).sum
def tcnt (l : List S38) : Nat := (l.map fun e => e.f1.length + cnt e.f4).sum
def wt (c : List S45) (j : Nat) : Nat := (c.getD j z45).f1.length
theorem cnt_append (a b : List S45) : cnt (a ++ b) = cnt a + cnt b := by simp [cnt]
theorem cnt_one (o : S45) : cnt [o] = o.f1.length := by simp [cnt]
theorem cnt_take (c : List S45) : ∀ i, i ≤ c.length → cnt (c.take i) = sumN (wt c) i
  | 0, _ => by simp [cnt, sumN]
  | i + 1, h => by
    have hd := List.drop_eq_getElem_cons (show i < c.length by omega)
    obtain ⟨hg, _, _, ht⟩ := get_of_drop hd z45
    rw [Int.toNat_natCast] at hg
    rw [ht, sumN, ← cnt_take c i (by omega), wt, hg, cnt_append, cnt_one]
theorem cnt_drop (c : List S45) (f : Nat) : ∀ i, i ≤ c.length → f ≤ i → cnt ((c.take i).drop f) = sumN (fun j => if f ≤ j then wt c j else 0) i
  | 0, _, _ => by simp [cnt, sumN]
  | i + 1, h, hf => by
    have hd := List.drop_eq_getElem_cons (show i < c.length by omega)
    obtain ⟨hg, _, _, ht⟩ := get_of_drop hd z45
    rw [Int.toNat_natCast] at hg
    rw [sumN]
    rcases Nat.lt_or_ge i f with h1 | h1
    · have : f = i + 1 := by omega
      subst this
      rw [List.drop_eq_nil_of_le (by rw [List.length_take]; omega), if_neg (by omega), sumN_congr (g' := fun _ => 0) (fun j hj => if_neg (by omega)), sumN_zero]
      rfl
    rw [ht, List.drop_append_of_le_length (by rw [List.length_take]; omega), if_pos h1, ← cnt_drop c f i (by omega) h1, wt, hg, cnt_append, cnt_one]
/-- is a place among those that a service from place i on needs? -/
def pend (c : List S45) (fs : List Int) (i j : Nat) : Bool := (List.range c.length).any fun s => decide (i ≤ s) && ((c.getD s z45).f0 == 9 && decide (fs.getD s 0 ≤ (j : Int)) && decide ((j : Int) < (s : Int)))
theorem pend_iff (c : List S45) (fs : List Int) (i j : Nat) : pend c fs i j = true ↔ ∃ s, i ≤ s ∧ s < c.length ∧ isSv c s ∧ fs.getD s 0 ≤ (j : Int) ∧ j < s := by
  unfold pend isSv
  simp only [List.any_eq_true, List.mem_range, Bool.and_eq_true, decide_eq_true_eq, beq_iff_eq]
  constructor
  · rintro ⟨s, h1, h2, ⟨h3, h4⟩, h5⟩
    exact ⟨s, h2, h1, h3, h4, by omega⟩
  rintro ⟨s, h2, h1, h3, h4, h5⟩
  exact ⟨s, h1, h2, ⟨h3, h4⟩, by omega⟩
theorem inn_iff (c : List S45) (fs : List Int) (j : Nat) : taskInn c fs c.length (j : Int) = true ↔ ∃ s, s < c.length ∧ isSv c s ∧ fs.getD s 0 ≤ (j : Int) ∧ j < s := by
  unfold taskInn isSv
  simp only [List.any_eq_true, List.mem_range, Bool.and_eq_true, decide_eq_true_eq, beq_iff_eq]
  constructor
  · rintro ⟨s, h1, ⟨h3, h4⟩, h5⟩
    exact ⟨s, h1, h3, h4, by omega⟩
  rintro ⟨s, h1, h3, h4, h5⟩
  exact ⟨s, h1, ⟨h3, h4⟩, by omega⟩
theorem bool_eq_of_iff {a b : Bool} (h : a = true ↔ b = true) : a = b := by rw [Bool.eq_iff_iff]; exact h
theorem tasks_cnt {c : List S45} {fs : List Int} (names : List ByteArray) (hF : ∀ t, t < c.length → FromAt c t (fs.getD t 0)) (hk : ∀ t, t < c.length → opOK (c.getD t z45) = true) : ∀ (r : List S45) (i : Nat), c.drop i = r → i ≤ c.length →
    tcnt (tasksP c fs names i r) + sumN (wt c) i = cnt c + sumN (fun j => if pend c fs i j = true then wt c j else 0) i
  | [], i, hd, hi => by
    have := len_of_drop hd
    have hil : i = c.length := by omega
    subst hil
    rw [← cnt_take c _ (Nat.le_refl _), List.take_length, sumN_congr (g := fun j => if pend c fs c.length j = true then wt c j else 0) (g' := fun _ => 0) (fun j hj => if_neg (fun h => by
      obtain ⟨s, h1, h2, _⟩ := (pend_iff c fs _ j).1 h
      omega)), sumN_zero]
    simp [tasksP, tcnt]
  | o :: r, i, hd, _ => by
    obtain ⟨hg, hi, hr, _⟩ := get_of_drop hd z45
    rw [Int.toNat_natCast] at hg
    have ih := tasks_cnt names hF hk r (i + 1) hr (by omega)
    rw [sumN, sumN] at ih
    have hok := hk i hi
    rw [hg] at hok
    have hwi : wt c i = o.f1.length := by rw [wt, hg]
    obtain ⟨f, hf, hfi, _, _, hno⟩ := hF i hi
    -- a service is in no service's parts
    have nest : isSv c i → ∀ s, i < s → s < c.length → isSv c s → fs.getD s 0 ≤ (i : Int) → False := fun hs s h1 h2 h3 h4 => by
      obtain ⟨f', hf', _, _, _, hno'⟩ := hF s h2
      exact hno' h3 i (by omega) h1 hs
    have hpi : pend c fs (i + 1) i = taskInn c fs c.length (i : Int) := bool_eq_of_iff (by
      rw [pend_iff, inn_iff]
      exact ⟨fun ⟨s, h1, h2, h3, h4, h5⟩ => ⟨s, h2, h3, h4, h5⟩, fun ⟨s, h2, h3, h4, h5⟩ => ⟨s, by omega, h2, h3, h4, h5⟩⟩)
    have hpo : o.f0 ≠ 9 → ∀ j, j < i → pend c fs i j = pend c fs (i + 1) j := fun h9 j hj => bool_eq_of_iff (by
      rw [pend_iff, pend_iff]
      refine ⟨fun ⟨s, h1, h2, h3, h4, h5⟩ => ⟨s, ?_, h2, h3, h4, h5⟩, fun ⟨s, h1, h2, h3, h4, h5⟩ => ⟨s, by omega, h2, h3, h4, h5⟩⟩
      rcases Nat.lt_or_ge i s with h6 | h6
      · exact h6
      have : s = i := by omega
      subst this
      unfold isSv at h3
      rw [hg] at h3
      exact absurd h3 h9)
    rw [tasksP]
    by_cases h1 : taskInn c fs c.length i = true
    · rw [if_pos h1]
      have h9 : o.f0 ≠ 9 := fun h9 => by
        obtain ⟨s, h2, h3, h4, h5⟩ := (inn_iff c fs i).1 h1
        exact nest (by unfold isSv; rwa [hg]) s h5 h2 h3 h4
      rw [hpi, if_pos h1] at ih
      rw [sumN_congr (g := fun j => if pend c fs i j = true then wt c j else 0) (g' := fun j => if pend c fs (i + 1) j = true then wt c j else 0) (fun j hj => by rw [hpo h9 j hj])]
      omega
    rw [if_neg h1]
    rw [hpi, if_neg h1] at ih
    by_cases h2 : o.f0 = 1 ∧ 0 < o.f1.length
    · rw [if_pos h2]
      rw [sumN_congr (g := fun j => if pend c fs i j = true then wt c j else 0) (g' := fun j => if pend c fs (i + 1) j = true then wt c j else 0) (fun j hj => by rw [hpo (by omega) j hj])]
      have : tcnt (⟨i, o.f1, -2, false, []⟩ :: tasksP c fs names (i + 1) r) = o.f1.length + tcnt (tasksP c fs names (i + 1) r) := by simp [tcnt, cnt]
      omega
    rw [if_neg h2]
    by_cases h9 : o.f0 = 9
    · rw [if_pos h9]
      have hw0 : o.f1.length = 0 := by rw [opOK_tri hok (by omega)]; rfl
      have hcnt := cnt_drop c f i (by omega) hfi
      have : tcnt (⟨i, [], idxOf o.f4.data.toList (B names) 0, o.f5, (c.take i).drop (fs.getD i 0).toNat⟩ :: tasksP c fs names (i + 1) r) = cnt ((c.take i).drop f) + tcnt (tasksP c fs names (i + 1) r) := by
        rw [hf, Int.toNat_natCast]
        simp [tcnt]
      rw [this, hcnt]
      have hsum : sumN (fun j => if pend c fs i j = true then wt c j else 0) i = sumN (fun j => if f ≤ j then wt c j else 0) i + sumN (fun j => if pend c fs (i + 1) j = true then wt c j else 0) i := by
        rw [← sumN_add]
        refine sumN_congr fun j hj => ?_
        by_cases h3 : f ≤ j
        · have hp : pend c fs i j = true := (pend_iff c fs i j).2 ⟨i, Nat.le_refl _, hi, by unfold isSv; rwa [hg], by omega, hj⟩
          have hq : ¬ pend c fs (i + 1) j = true := fun h => by
            obtain ⟨s, h4, h5, h6, h7, h8⟩ := (pend_iff c fs (i + 1) j).1 h
            exact nest (by unfold isSv; rwa [hg]) s (by omega) h5 h6 (by omega)
          rw [if_pos hp, if_pos h3, if_neg hq]
          rfl
        rw [if_neg h3, Nat.zero_add]
        have : pend c fs i j = pend c fs (i + 1) j := bool_eq_of_iff (by
          rw [pend_iff, pend_iff]
          refine ⟨fun ⟨s, h1, h2, h3', h4, h5⟩ => ⟨s, ?_, h2, h3', h4, h5⟩, fun ⟨s, h1, h2, h3', h4, h5⟩ => ⟨s, by omega, h2, h3', h4, h5⟩⟩
          rcases Nat.lt_or_ge i s with h6 | h6
          · exact h6
          have : s = i := by omega
          subst this
          omega)
        rw [this]
      omega
    rw [if_neg h9]
    have hw0 : o.f1.length = 0 := by
      by_cases h3 : o.f0 = 1
      · omega
      rw [opOK_tri hok h3]; rfl
    rw [sumN_congr (g := fun j => if pend c fs i j = true then wt c j else 0) (g' := fun j => if pend c fs (i + 1) j = true then wt c j else 0) (fun j hj => by rw [hpo h9 j hj])]
    omega
end Go.Proofs.Ytcfoebkbahpnaaa.K
