/- What the printed functions of table.Check, result.Check and of their references come to. -/
import Derived.Test.YtgabadlneeffkaaDoorLVx
import Derived.Test.YtgabadlneeffkaaDoorLTe
namespace Go.Proofs.YtgabadlneeffkaaDoor.S
open Go.RowKit Go.Lib Go.Proofs.YtgabadlneeffkaaDoor Go.Proofs.YtgabadlneeffkaaDoorW.PrintWords Go.Proofs.YtgabadlneeffkaaDoorW.PrintLast
set_option linter.unusedVariables false
set_option linter.unusedSimpArgs false

theorem get_of_drop {α : Type} {xs : List α} {i : Nat} {c : α} {r : List α} (h : xs.drop i = c :: r) (d : α) : xs.getD ((i : Int)).toNat d = c ∧ i < xs.length ∧ xs.drop (i + 1) = r ∧ xs.take (i + 1) = xs.take i ++ [c] := by
  have hi : i < xs.length := by
    rcases Nat.lt_or_ge i xs.length with h' | h'
    · exact h'
    rw [List.drop_eq_nil_of_le h'] at h; cases h
  have h2 := List.drop_eq_getElem_cons hi
  rw [h] at h2
  injection h2 with h3 h4
  refine ⟨?_, hi, h4.symm, ?_⟩
  · rw [Int.toNat_natCast, List.getD_eq_getElem?_getD, List.getElem?_eq_getElem hi, h3]; rfl
  rw [List.take_add_one, List.getElem?_eq_getElem hi, h3]; rfl
theorem len_of_drop {α : Type} {xs : List α} {i : Nat} (h : xs.drop i = []) : xs.length ≤ i := List.drop_eq_nil_iff.1 h
def B (l : List ByteArray) : List (List UInt8) := l.map (·.data.toList)
theorem B_len (l : List ByteArray) : (B l).length = l.length := by simp [B]
def idxOf (a : List UInt8) : List (List UInt8) → Nat → Int
  | [], _ => -1
  | h :: t, i => if a = h then (i : Int) else idxOf a t (i + 1)
theorem idxOf_ge (a : List UInt8) : ∀ (l : List (List UInt8)) (i : Nat), decide (idxOf a l i ≥ 0) = l.contains a
  | [], i => by simp [idxOf]
  | h :: t, i => by
    unfold idxOf
    by_cases e : a = h
    · simp [e]
    rw [if_neg e, idxOf_ge a t (i + 1), List.contains_cons, beq_eq_false_iff_ne.mpr e, Bool.false_or]
theorem index_loop (x : List ByteArray) (hx : x.length ≤ 9223372036854775807) (a : ByteArray) : ∀ (r : List ByteArray) (i : Nat), x.drop i = r →
    Ev (fun k => slices_Index_string_string.l0 k x a (x.length : Int) (i : Int)) (idxOf a.data.toList (B r) i) := by
  intro r
  induction r with
  | nil =>
    intro i hd
    have := len_of_drop hd
    refine Ev.step (fun k => by rw [slices_Index_string_string.l0]) ?_
    simp only [if_neg (show ¬ ((i : Int) < (x.length : Int)) by omega)]
    exact Ev.now _
  | cons c r ih =>
    intro i hd
    obtain ⟨hg, hi, hr, _⟩ := get_of_drop hd ByteArray.empty
    refine Ev.step (fun k => by rw [slices_Index_string_string.l0]) ?_
    have e : rdOf ByteArray.empty x (i : Int) = c := hg
    simp only [if_pos (show (i : Int) < (x.length : Int) by omega), if_pos (show (0 : Int) ≤ (i : Int) by omega), e, wrap_succ (show i < 9223372036854775807 by omega), tl]
    rw [show B (c :: r) = c.data.toList :: B r from rfl, idxOf]
    by_cases h : a.data.toList = c.data.toList
    · simp only [if_pos h]; exact Ev.now _
    simp only [if_neg h]; exact ih (i + 1) hr
theorem contains_ev (x : List ByteArray) (hx : x.length ≤ 9223372036854775807) (a : ByteArray) : Ev (fun k => slices_Contains_string_string.f k x a) ((B x).contains a.data.toList) := by
  unfold slices_Contains_string_string.f slices_Index_string_string.f
  refine Ev.bind (index_loop x hx a x 0 rfl) ?_
  rw [idxOf_ge]
  exact Ev.now _
/-! ### tables -/
def nmOK : List (List UInt8) → List (List UInt8) → Bool
  | _, [] => true
  | p, v :: r => okName v && !p.contains v && nmOK (p ++ [v]) r
def cellOK (t : S43) : Bool := !(t.f0 == 4) && okTm (T t)
def rowOK (n : Nat) (row : List S43) : Bool := row.length == n && row.all cellOK
def tabOK (vars : List ByteArray) (rows : List (List S43)) : Bool := decide (vars.length ≤ 32) && decide (rows.length ≤ 4096) && nmOK [] (B vars) && rows.all (rowOK vars.length)
theorem e02_false : e02 false = 2 := rfl
theorem e02_true : e02 true = 0 := rfl
theorem cells_loop (vars : List ByteArray) (rows : List (List S43)) (i : Nat) (row : List S43) (hrow : row.length ≤ 9223372036854775807) (hi : i < 9223372036854775807) (v : Bool)
    (hn : Ev (fun k => table_Check.l1 k rows (rows.length : Int) ((i + 1 : Nat) : Int) vars rows) (e02 v)) : ∀ (r : List S43) (j : Nat), row.drop j = r →
    Ev (fun k => table_Check.l2 k rows (rows.length : Int) (i : Int) row (row.length : Int) (j : Int) vars rows) (e02 (r.all cellOK && v)) := by
  intro r
  induction r with
  | nil =>
    intro j hd
    have := len_of_drop hd
    refine Ev.step (fun k => by rw [table_Check.l2]) ?_
    simp only [if_neg (show ¬ ((j : Int) < (row.length : Int)) by omega), wrap_succ hi]
    exact hn
  | cons c r ih =>
    intro j hd
    obtain ⟨hg, hj, hr, _⟩ := get_of_drop hd z43
    refine Ev.step (fun k => by rw [table_Check.l2]) ?_
    have e : rd_T43 row (j : Int) = c := hg
    simp only [if_pos (show (j : Int) < (row.length : Int) by omega), if_pos (show (0 : Int) ≤ (j : Int) by omega), e, wrap_succ (show j < 9223372036854775807 by omega)]
    rw [List.all_cons, cellOK]
    by_cases h4 : c.f0 = 4
    · simp only [if_pos h4, h4, beq_self_eq_true, Bool.not_true, Bool.false_and]; exact Ev.now _
    simp only [if_neg h4, beq_eq_false_iff_ne.mpr h4, Bool.not_false, Bool.true_and]
    refine Ev.bind (tcheck_ev c.f0 c.f1 c.f2 c.f3) ?_
    rw [show TT c.f0 c.f1 c.f2 c.f3 = T c from rfl]
    cases okTm (T c) with
    | false => simp only [e02_false, if_neg (show ¬ ((2 : Int) = 0) by decide), Bool.false_and]; exact Ev.now _
    | true => simp only [e02_true, if_true, Bool.true_and]; exact ih (j + 1) hr
theorem rows_loop (vars : List ByteArray) (hv : vars.length ≤ 32) (rows : List (List S43)) (hrows : rows.length ≤ 4096) : ∀ (r : List (List S43)) (i : Nat), rows.drop i = r →
    Ev (fun k => table_Check.l1 k rows (rows.length : Int) (i : Int) vars rows) (e02 (r.all (rowOK vars.length))) := by
  intro r
  induction r with
  | nil =>
    intro i hd
    have := len_of_drop hd
    refine Ev.step (fun k => by rw [table_Check.l1]) ?_
    simp only [if_neg (show ¬ ((i : Int) < (rows.length : Int)) by omega)]
    exact Ev.now _
  | cons c r ih =>
    intro i hd
    obtain ⟨hg, hi, hr, _⟩ := get_of_drop hd ([] : List S43)
    refine Ev.step (fun k => by rw [table_Check.l1]) ?_
    have e : rd_L3 rows (i : Int) = c := hg
    simp only [if_pos (show (i : Int) < (rows.length : Int) by omega), if_pos (show (0 : Int) ≤ (i : Int) by omega), e]
    rw [List.all_cons, rowOK]
    by_cases hl : c.length = vars.length
    · simp only [if_pos (show (c.length : Int) = (vars.length : Int) by omega), hl, beq_self_eq_true, Bool.true_and]
      have := cells_loop vars rows i c (by omega) (by omega) _ (ih (i + 1) hr) c 0 rfl
      rw [hl] at this
      exact this
    simp only [if_neg (show ¬ ((c.length : Int) = (vars.length : Int)) by omega), beq_eq_false_iff_ne.mpr hl, Bool.false_and]
    exact Ev.now _
theorem names_loop (vars : List ByteArray) (hv : vars.length ≤ 32) (rows : List (List S43)) (hrows : rows.length ≤ 4096) : ∀ (r : List ByteArray) (i : Nat), vars.drop i = r →
    Ev (fun k => table_Check.l0 k vars (vars.length : Int) (i : Int) vars rows) (e02 (nmOK (B (vars.take i)) (B r) && rows.all (rowOK vars.length))) := by
  intro r
  induction r with
  | nil =>
    intro i hd
    have := len_of_drop hd
    refine Ev.step (fun k => by rw [table_Check.l0]) ?_
    simp only [if_neg (show ¬ ((i : Int) < (vars.length : Int)) by omega)]
    rw [show B [] = [] from rfl, nmOK, Bool.true_and]
    exact rows_loop vars hv rows hrows rows 0 rfl
  | cons c r ih =>
    intro i hd
    obtain ⟨hg, hi, hr, ht⟩ := get_of_drop hd ByteArray.empty
    refine Ev.step (fun k => by rw [table_Check.l0]) ?_
    have e : rdOf ByteArray.empty vars (i : Int) = c := hg
    simp only [if_pos (show (i : Int) < (vars.length : Int) by omega), if_pos (show (0 : Int) ≤ (i : Int) by omega), if_pos (show (i : Int) ≤ (vars.length : Int) by omega), e, wrap_succ (show i < 9223372036854775807 by omega), Int.toNat_natCast]
    rw [show B (c :: r) = c.data.toList :: B r from rfl, nmOK]
    refine Ev.bind (isName_ev c) ?_
    cases okName c.data.toList with
    | false => simp only [Bool.false_eq_true, if_false, Bool.false_and]; exact Ev.now _
    | true =>
      simp only [if_true, Bool.true_and]
      refine Ev.bind (contains_ev (vars.take i) (by rw [List.length_take]; omega) c) ?_
      cases (B (vars.take i)).contains c.data.toList with
      | true => simp only [if_true, Bool.not_true, Bool.false_and]; exact Ev.now _
      | false =>
        simp only [Bool.false_eq_true, if_false, Bool.not_false, Bool.true_and]
        have h := ih (i + 1) hr
        rw [ht] at h
        rw [show B (vars.take i) ++ [c.data.toList] = B (vars.take i ++ [c]) by simp [B]]
        exact h
theorem tabcheck_ev (vars : List ByteArray) (rows : List (List S43)) : Ev (fun k => table_Check.f k vars rows) (e02 (tabOK vars rows)) := by
  unfold table_Check.f tabOK
  by_cases h1 : vars.length ≤ 32
  · simp only [if_neg (show ¬ ((vars.length : Int) > 32) by omega), decide_eq_true h1, Bool.true_and]
    refine Ev.step (fun k => by rw [table_Check.j0]) ?_
    by_cases h2 : rows.length ≤ 4096
    · simp only [decide_eq_false (show ¬ ((rows.length : Int) > 4096) by omega), Bool.false_eq_true, if_false, decide_eq_true h2, Bool.true_and]
      exact names_loop vars h1 rows h2 vars 0 rfl
    simp only [decide_eq_true (show (rows.length : Int) > 4096 by omega), if_true, decide_eq_false h2, Bool.false_and]
    exact Ev.now _
  simp only [if_pos (show (vars.length : Int) > 32 by omega), decide_eq_false h1, Bool.false_and]
  refine Ev.step (fun k => by rw [table_Check.j0]) ?_
  simp only [if_true]
  exact Ev.now _

/-! ### the reference's table -/
/-! ### replies -/
def rightR (vars : List ByteArray) (rows : List (List S43)) : Bool := tabOK vars [] && rows.all (fun r => tabOK vars [r])
def badR (id kind err : Int) : Prop := id < 0 ∨ id ≥ 4096 ∨ kind < 1 ∨ kind > 3 ∨ (kind = 3 ∧ (err < 1 ∨ err > 9))
instance (id kind err : Int) : Decidable (badR id kind err) := by unfold badR; infer_instance
def chk (id kind : Int) (vars : List ByteArray) (rows : List (List S43)) (truth : Bool) (err : Int) : Int :=
  if badR id kind err then 1
  else if kind = 1 then (if truth = true ∨ ¬ err = 0 ∨ ¬ rightR vars rows = true then 2 else if rows.length > 1024 then 3 else 0)
  else if kind = 2 then (if vars.length = 0 ∧ rows.length = 0 ∧ err = 0 then 0 else 2)
  else (if vars.length = 0 ∧ rows.length = 0 ∧ truth = false then 0 else 2)
theorem chk_loop (a0 a1 : Int) (vars : List ByteArray) (rows : List (List S43)) (hr : rows.length ≤ 9223372036854775807) (tr : Bool) (er : Int) : ∀ (r : List (List S43)) (i : Nat) (y : List (List S43)), rows.drop i = r →
    Ev (fun k => result_Check.l0 k rows (rows.length : Int) (i : Int) a0 a1 vars rows tr er vars y) (if r.all (fun r => tabOK vars [r]) = true then (if rows.length > 1024 then 3 else 0) else 2) := by
  intro r
  induction r with
  | nil =>
    intro i y hd
    have := len_of_drop hd
    refine Ev.step (fun k => by rw [result_Check.l0]) ?_
    simp only [if_neg (show ¬ ((i : Int) < (rows.length : Int)) by omega), List.all_nil, if_true]
    by_cases h : rows.length > 1024
    · simp only [if_pos (show (rows.length : Int) > 1024 by omega), if_pos h]; exact Ev.now _
    simp only [if_neg (show ¬ ((rows.length : Int) > 1024) by omega), if_neg h]; exact Ev.now _
  | cons c r ih =>
    intro i y hd
    obtain ⟨hg, hi, hr, _⟩ := get_of_drop hd ([] : List S43)
    refine Ev.step (fun k => by rw [result_Check.l0]) ?_
    have e : rd_L3 rows (i : Int) = c := hg
    simp only [if_pos (show (i : Int) < (rows.length : Int) by omega), if_pos (show (0 : Int) ≤ (i : Int) by omega), e, Option.bind_some, wrap_succ (show i < 9223372036854775807 by omega)]
    refine Ev.bind (tabcheck_ev vars [c]) ?_
    rw [List.all_cons]
    cases tabOK vars [c] with
    | false => simp only [e02_false, if_neg (show ¬ ((2 : Int) = 0) by decide), Bool.false_and, Bool.false_eq_true, if_false]; exact Ev.now _
    | true => simp only [e02_true, if_true, Bool.true_and]; exact ih (i + 1) _ hr
theorem empty_eq (vars : List ByteArray) (rows : List (List S43)) : result_empty.f vars rows = some (decide (vars.length = 0 ∧ rows.length = 0)) := by
  unfold result_empty.f
  by_cases h : vars.length = 0
  · rw [if_pos (by omega)]
    congr 1
    rw [Bool.eq_iff_iff]
    simp only [h, true_and, beq_iff_eq, decide_eq_true_eq]
    omega
  rw [if_neg (by omega), decide_eq_false (fun x => h x.1)]
theorem bad_j {β : Type} (g : Bool → Nat → Option β) (a0 a1 er : Int) (z : β) (h : Ev (g (decide (badR a0 a1 er))) z) :
    Ev (fun k => if a0 < 0 then g true k else (if a0 ≥ 4096 then g true k else (if a1 < 1 then g true k else (if a1 > 3 then g true k else (if a1 = 3 then (if er < 1 then g true k else g (decide (er > 9)) k) else g false k))))) z := by
  have key : ∀ x : Bool, (x = true ↔ badR a0 a1 er) → Ev (g x) z := by
    intro x hx
    rwa [show x = decide (badR a0 a1 er) by rw [Bool.eq_iff_iff, hx, decide_eq_true_eq]]
  unfold badR at key
  by_cases h1 : a0 < 0
  · simp only [if_pos h1]; exact key true (by simp [h1])
  simp only [if_neg h1]
  by_cases h2 : a0 ≥ 4096
  · simp only [if_pos h2]; exact key true (by simp [h2])
  simp only [if_neg h2]
  by_cases h3 : a1 < 1
  · simp only [if_pos h3]; exact key true (by simp [h3])
  simp only [if_neg h3]
  by_cases h4 : a1 > 3
  · simp only [if_pos h4]; exact key true (by simp [h4])
  simp only [if_neg h4]
  by_cases h5 : a1 = 3
  · simp only [if_pos h5]
    by_cases h6 : er < 1
    · simp only [if_pos h6]; exact key true (by simp [h5, h6])
    simp only [if_neg h6]
    exact key _ (by rw [decide_eq_true_eq]; omega)
  simp only [if_neg h5]
  exact key false (by simp [h1, h2, h3, h4, h5])
theorem chk_ev (a0 a1 : Int) (vars : List ByteArray) (rows : List (List S43)) (hr : rows.length ≤ 9223372036854775807) (tr : Bool) (er : Int) : Ev (fun k => result_Check.f k a0 a1 vars rows tr er) (chk a0 a1 vars rows tr er) := by
  unfold result_Check.f
  refine bad_j (fun b k => result_Check.j0 k b a0 a1 vars rows tr er) a0 a1 er _ ?_
  refine Ev.step (fun k => by rw [result_Check.j0]) ?_
  unfold chk
  by_cases hb : badR a0 a1 er
  · simp only [decide_eq_true hb, if_true, if_pos hb]; exact Ev.now _
  simp only [decide_eq_false hb, Bool.false_eq_true, if_false, if_neg hb]
  by_cases k1 : a1 = 1
  · simp only [if_pos k1]
    have hbad : Ev (fun k => result_Check.j1 k true a0 a1 vars rows tr er vars) 2 := by
      refine Ev.step (fun k => by rw [result_Check.j1]) ?_
      simp only [if_true]; exact Ev.now _
    cases tr with
    | true => simp only [if_true, true_or]; exact hbad
    | false =>
      simp only [Bool.false_eq_true, if_false, false_or]
      by_cases he : er = 0
      · subst he
        simp only [if_true, not_true, false_or]
        refine Ev.bind (tabcheck_ev vars []) ?_
        unfold rightR
        cases tabOK vars [] with
        | false => 
          simp only [e02_false, Bool.false_and, Bool.false_eq_true, not_false_iff, if_true]
          exact hbad
        | true =>
          simp only [e02_true, Bool.true_and]
          refine Ev.step (fun k => by rw [result_Check.j1]) ?_
          simp only [show ((0 : Int) != 0) = false from rfl, Bool.false_eq_true, if_false]
          have h := chk_loop a0 a1 vars rows hr false 0 rows 0 [] rfl
          by_cases ha : rows.all (fun r => tabOK vars [r]) = true
          · rw [if_pos ha] at h
            rw [if_neg (by simpa using ha)]
            exact h
          rw [if_neg ha] at h
          rw [if_pos (by simpa using ha)]
          exact h
      rw [if_pos (Or.inl he)]; simp only [if_neg he]; exact hbad
  simp only [if_neg k1]
  by_cases k2 : a1 = 2
  · simp only [if_pos k2, empty_eq, Option.bind_some]
    by_cases hz : vars.length = 0 ∧ rows.length = 0
    · simp only [decide_eq_true hz, if_true, hz.1, hz.2, true_and]
      by_cases he : er = 0
      · simp only [if_pos he]; exact Ev.now _
      simp only [if_neg he]; exact Ev.now _
    simp only [decide_eq_false hz, Bool.false_eq_true, if_false, if_neg (fun h : vars.length = 0 ∧ rows.length = 0 ∧ er = 0 => hz ⟨h.1, h.2.1⟩)]; exact Ev.now _
  simp only [if_neg k2]
  have k3 : a1 = 3 := by unfold badR at hb; omega
  simp only [if_pos k3, empty_eq, Option.bind_some]
  by_cases hz : vars.length = 0 ∧ rows.length = 0
  · simp only [decide_eq_true hz, if_true, hz.1, hz.2, true_and]
    cases tr with
    | true => simp only [if_true, Bool.true_eq_false, if_false]; exact Ev.now _
    | false => simp only [Bool.false_eq_true, if_false, if_true]; exact Ev.now _
  simp only [decide_eq_false hz, Bool.false_eq_true, if_false, if_neg (fun h : vars.length = 0 ∧ rows.length = 0 ∧ tr = false => hz ⟨h.1, h.2.1⟩)]; exact Ev.now _
end Go.Proofs.YtgabadlneeffkaaDoor.S
