import Derived.Test.YtgabadlneeffkaaGreatDoorEZx
import Derived.Test.YtgabadlneeffkaaGreatDoorESt
/- What the printed functions of term and of its reference come to: the plain words of St.lean. -/
namespace Go.Proofs.YtgabadlneeffkaaGreatDoor.P
open Go.RowKit Go.Lib Go.Proofs.YtgabadlneeffkaaGreatDoor Go.Proofs.YtgabadlneeffkaaGreatDoorW.PrintWords Go.Proofs.YtgabadlneeffkaaGreatDoorW.PrintLast
set_option linter.unusedVariables false
set_option linter.unusedSimpArgs false

theorem bt_of_drop {s : ByteArray} {i : Nat} {c : UInt8} {r : List UInt8} (h : s.data.toList.drop i = c :: r) : bt s (i : Int) = (c.toNat : Int) ∧ i < s.size ∧ s.data.toList.drop (i + 1) = r := by
  have hi : i < s.data.toList.length := by
    rcases Nat.lt_or_ge i s.data.toList.length with h' | h'
    · exact h'
    rw [List.drop_eq_nil_of_le h'] at h; cases h
  have h2 := List.drop_eq_getElem_cons hi
  rw [h] at h2
  injection h2 with h3 h4
  have hs : i < s.size := by rw [← size_toList]; exact hi
  refine ⟨?_, hs, h4.symm⟩
  unfold bt
  rw [dif_pos (by simpa using hs)]
  rw [h3]
  simp
  rfl
theorem size_of_drop {s : ByteArray} {i : Nat} (h : s.data.toList.drop i = []) : s.size ≤ i := by
  rw [← size_toList]
  exact List.drop_eq_nil_iff.1 h
theorem wrap_succ {n : Nat} (h : n < 9223372036854775807) : wrap64 ((n : Int) + 1) = ((n + 1 : Nat) : Int) := by unfold wrap64; omega
theorem tl (s : ByteArray) : s.toList = s.data.toList := Lib.toList_data s
theorem ext_toList (s : ByteArray) (i j : Nat) : (s.extract i j).data.toList = (s.data.toList.drop i).take (j - i) := by
  rw [ByteArray.data_extract, Array.toList_extract, List.extract_eq_take_drop]

/-! ### bytes -/
theorem letter_eq (c : UInt8) : term_letter.f (c.toNat : Int) = some (isLet c) :=
  forall_byte (P := fun c => term_letter.f (c.toNat : Int) = some (isLet c)) (by decide +kernel) c
theorem digit_eq (c : UInt8) : term_digit.f (c.toNat : Int) = some (isDig c) :=
  forall_byte (P := fun c => term_digit.f (c.toNat : Int) = some (isDig c)) (by decide +kernel) c
theorem iri_eq (c : UInt8) : iriB c = iriC c := forall_byte (P := fun c => iriB c = iriC c) (by decide +kernel) c
/-! ### names -/
theorem named_loop (s : ByteArray) : ∀ (r : List UInt8) (i : Nat), s.data.toList.drop i = r → i ≤ 32 →
    Ev (fun k => term_named.l0 k s (i : Int)) ((i + ((r.take (32 - i)).takeWhile nameB).length : Nat) : Int) := by
  intro r
  induction r with
  | nil =>
    intro i hd hi
    have := size_of_drop hd
    refine Ev.step (fun k => by rw [term_named.l0]) ?_
    simp only [if_neg (show ¬ ((i : Int) < (s.size : Int)) by omega)]
    simp only [List.take_nil, List.takeWhile_nil, List.length_nil, Nat.add_zero]
    exact Ev.now _
  | cons c r ih =>
    intro i hd hi
    obtain ⟨hb, his, hr⟩ := bt_of_drop hd
    refine Ev.step (fun k => by rw [term_named.l0]) ?_
    by_cases h32 : i = 32
    · subst h32
      simp only [if_pos (show ((32 : Nat) : Int) < (s.size : Int) by omega), if_neg (show ¬ (((32 : Nat) : Int) < 32) by omega)]
      simp only [Nat.sub_self, List.take_zero, List.takeWhile_nil, List.length_nil, Nat.add_zero]
      exact Ev.now _
    simp only [if_pos (show (i : Int) < (s.size : Int) by omega), if_pos (show (i : Int) < 32 by omega), if_pos (show (0 : Int) ≤ (i : Int) by omega), hb, letter_eq, digit_eq, Option.bind_some, wrap_succ (show i < 9223372036854775807 by omega)]
    have e : 32 - i = (32 - (i + 1)) + 1 := by omega
    rw [e, List.take_succ_cons]
    have h := ih (i + 1) hr (by omega)
    by_cases hn : nameB c = true
    · rw [List.takeWhile_cons_of_pos hn, List.length_cons]
      rw [show i + (((r.take (32 - (i + 1))).takeWhile nameB).length + 1) = i + 1 + ((r.take (32 - (i + 1))).takeWhile nameB).length by omega]
      unfold nameB at hn
      by_cases h1 : isLet c = true
      · simp only [h1, if_true]; exact h
      simp only [h1, Bool.false_eq_true, if_false]
      by_cases h2 : isDig c = true
      · simp only [h2, if_true]; exact h
      have h3 : c.toNat = 95 := by simpa [h1, h2] using hn
      simp only [h2, Bool.false_eq_true, if_false, h3, if_pos (show ((95 : Nat) : Int) = 95 from rfl)]
      exact h
    rw [List.takeWhile_cons_of_neg hn, List.length_nil, Nat.add_zero]
    unfold nameB at hn
    simp only [Bool.or_eq_true, not_or, Bool.not_eq_true] at hn
    obtain ⟨⟨h1, h2⟩, h3⟩ := hn
    have h3' : ¬ ((c.toNat : Int) = 95) := by
      intro h; have : c.toNat = 95 := by omega
      simp [this] at h3
    simp only [h1, h2, Bool.false_eq_true, if_false, if_neg h3']
    exact Ev.now _
theorem named_ev (s : ByteArray) : Ev (fun k => term_named.f k s) ((nameN s.data.toList : Nat) : Int) := by
  unfold term_named.f
  simp only [tl]
  cases hl : s.data.toList with
  | nil =>
    simp only [if_true]
    refine Ev.step (fun k => by rw [term_named.j0]) ?_
    simp only [if_true]
    exact Ev.now _
  | cons c r =>
    obtain ⟨hb, his, hr⟩ := bt_of_drop (s := s) (i := 0) (by rw [List.drop_zero]; exact hl)
    simp only [if_neg (show ¬ (c :: r = []) by simp), if_pos (show (0 : Int) < (s.size : Int) by omega), show bt s 0 = (c.toNat : Int) from hb, letter_eq, Option.bind_some]
    refine Ev.step (fun k => by rw [term_named.j0]) ?_
    by_cases h1 : isLet c = true
    · simp only [h1, Bool.not_true, Bool.false_eq_true, if_false]
      rw [show nameN (c :: r) = 1 + ((r.take 31).takeWhile nameB).length by simp [nameN, h1]]
      exact named_loop s r 1 hr (by omega)
    simp only [h1, Bool.not_false, if_true]
    rw [show nameN (c :: r) = 0 by simp [nameN, h1]]
    exact Ev.now _
theorem okName_iff (l : List UInt8) : okName l = (!l.isEmpty && (nameN l == l.length)) := by
  cases l with
  | nil => rfl
  | cons c r =>
    rw [Bool.eq_iff_iff]
    constructor
    · intro h
      obtain ⟨h1, h2⟩ := okName_nameN h
      simp [h1]
    intro h
    simp only [List.isEmpty_cons, Bool.not_false, Bool.true_and, beq_iff_eq] at h
    have := nameN_ok (l := c :: r) (by rw [h, List.length_cons]; omega)
    rwa [h, List.take_length] at this
theorem isName_ev (s : ByteArray) : Ev (fun k => term_IsName.f k s) (okName s.data.toList) := by
  unfold term_IsName.f
  simp only [tl, okName_iff]
  cases hl : s.data.toList with
  | nil => simp only [if_true]; exact Ev.now _
  | cons c r =>
    simp only [if_neg (show ¬ (c :: r = []) by simp)]
    refine Ev.bind (named_ev s) ?_
    rw [hl]
    have hz : s.size = (c :: r).length := by rw [← size_toList, hl]
    rw [hz]
    have e : ((((nameN (c :: r) : Nat) : Int) == (((c :: r).length : Nat) : Int)) : Bool) = (!(c :: r).isEmpty && (nameN (c :: r) == (c :: r).length)) := by
      rw [Bool.eq_iff_iff]
      simp only [List.isEmpty_cons, Bool.not_false, Bool.true_and, beq_iff_eq]
      omega
    rw [e]
    exact Ev.now _
theorem isIri_eq (s : ByteArray) : term_isIri.f s = some (okIri s.data.toList) := by
  unfold term_isIri.f okIri
  rw [← size_toList]
  have e : (iriB : UInt8 → Bool) = iriC := funext iri_eq
  rw [e]
  cases s.data.toList <;> simp

/-! ### texts and languages -/
theorem isText_loop (s : ByteArray) (hs : s.size ≤ 4096) : ∀ (r : List UInt8) (i : Nat), s.data.toList.drop i = r → i ≤ s.size →
    Ev (fun k => term_isText.l0 k s (i : Int)) (r.all textB) := by
  intro r
  induction r with
  | nil =>
    intro i hd hi
    have := size_of_drop hd
    refine Ev.step (fun k => by rw [term_isText.l0]) ?_
    simp only [if_neg (show ¬ ((i : Int) < (s.size : Int)) by omega)]
    exact Ev.now _
  | cons c r ih =>
    intro i hd hi
    obtain ⟨hb, his, hr⟩ := bt_of_drop hd
    refine Ev.step (fun k => by rw [term_isText.l0]) ?_
    simp only [if_pos (show (i : Int) < (s.size : Int) by omega), if_pos (show (0 : Int) ≤ (i : Int) by omega), hb, wrap_succ (show i < 9223372036854775807 by omega)]
    have h := ih (i + 1) hr (by omega)
    rw [List.all_cons]
    by_cases h0 : c.toNat = 10
    · have e : textB c = true := by simp [textB, h0]
      simp only [h0, e, Bool.true_and]
      simp only [if_pos (show ((10 : Nat) : Int) < 32 by decide), if_pos (show ((10 : Nat) : Int) = 10 from rfl)]
      exact h
    by_cases h1 : c.toNat = 9
    · have e : textB c = true := by simp [textB, h1]
      simp only [h1, e, Bool.true_and]
      simp only [if_pos (show ((9 : Nat) : Int) < 32 by decide), if_neg (show ¬ (((9 : Nat) : Int) = 10) by decide), if_pos (show ((9 : Nat) : Int) = 9 from rfl)]
      exact h
    simp only [if_neg (show ¬ ((c.toNat : Int) = 10) by omega), if_neg (show ¬ ((c.toNat : Int) = 9) by omega)]
    by_cases h2 : c.toNat < 32
    · have e : textB c = false := by simp [textB, h0, h1]; omega
      simp only [if_pos (show (c.toNat : Int) < 32 by omega), e, Bool.false_and]
      exact Ev.now _
    simp only [if_neg (show ¬ ((c.toNat : Int) < 32) by omega)]
    by_cases h3 : c.toNat > 126
    · have e : textB c = false := by simp [textB, h0, h1]; omega
      simp only [if_pos (show (c.toNat : Int) > 126 by omega), e, Bool.false_and]
      exact Ev.now _
    have e : textB c = true := by simp [textB, h0, h1]; omega
    simp only [if_neg (show ¬ ((c.toNat : Int) > 126) by omega), e, Bool.true_and]
    exact h
theorem isText_ev (s : ByteArray) : Ev (fun k => term_isText.f k s) (okText s.data.toList) := by
  unfold term_isText.f okText
  rw [size_toList]
  by_cases h : s.size ≤ 4096
  · simp only [if_neg (show ¬ ((s.size : Int) > 4096) by omega), decide_eq_true h, Bool.true_and]
    exact isText_loop s h _ 0 rfl (by omega)
  simp only [if_pos (show (s.size : Int) > 4096 by omega), decide_eq_false h, Bool.false_and]
  exact Ev.now _
theorem isLang_loop (s : ByteArray) (hs : s.size ≤ 4096) : ∀ (r : List UInt8) (i : Nat), s.data.toList.drop i = r → i ≤ s.size →
    Ev (fun k => term_isLang.l0 k s (i : Int)) (r.all langB) := by
  intro r
  induction r with
  | nil =>
    intro i hd hi
    have := size_of_drop hd
    refine Ev.step (fun k => by rw [term_isLang.l0]) ?_
    simp only [if_neg (show ¬ ((i : Int) < (s.size : Int)) by omega)]
    exact Ev.now _
  | cons c r ih =>
    intro i hd hi
    obtain ⟨hb, his, hr⟩ := bt_of_drop hd
    refine Ev.step (fun k => by rw [term_isLang.l0]) ?_
    simp only [if_pos (show (i : Int) < (s.size : Int) by omega), if_pos (show (0 : Int) ≤ (i : Int) by omega), hb, wrap_succ (show i < 9223372036854775807 by omega)]
    have h := ih (i + 1) hr (by omega)
    rw [List.all_cons]
    by_cases h2 : c.toNat < 97
    · have e : langB c = false := by simp [langB]; omega
      simp only [if_pos (show (c.toNat : Int) < 97 by omega), e, Bool.false_and]
      exact Ev.now _
    simp only [if_neg (show ¬ ((c.toNat : Int) < 97) by omega)]
    by_cases h3 : c.toNat > 122
    · have e : langB c = false := by simp [langB]; omega
      simp only [if_pos (show (c.toNat : Int) > 122 by omega), e, Bool.false_and]
      exact Ev.now _
    have e : langB c = true := by simp [langB]; omega
    simp only [if_neg (show ¬ ((c.toNat : Int) > 122) by omega), e, Bool.true_and]
    exact h
theorem isLang_ev (s : ByteArray) : Ev (fun k => term_isLang.f k s) (okLang s.data.toList) := by
  unfold term_isLang.f okLang
  rw [size_toList]
  simp only [tl]
  by_cases h0 : s.data.toList = []
  · simp only [h0, if_true]
    refine Ev.step (fun k => by rw [term_isLang.j0]) ?_
    simp only [if_true]
    exact Ev.now _
  have e0 : s.data.toList.isEmpty = false := by simpa using h0
  simp only [if_neg h0, e0]
  refine Ev.step (fun k => by rw [term_isLang.j0]) ?_
  by_cases h : s.size ≤ 8
  · simp only [decide_eq_false (show ¬ ((s.size : Int) > 8) by omega), decide_eq_true h, Bool.not_false, Bool.true_and, Bool.false_eq_true, if_false]
    exact isLang_loop s (by omega) _ 0 rfl (by omega)
  simp only [decide_eq_true (show (s.size : Int) > 8 by omega), decide_eq_false h, Bool.not_false, Bool.true_and, Bool.false_and, if_true]
  exact Ev.now _

/-! ### term.Check -/
def TT (k : Int) (a b c : ByteArray) : Tm := ⟨k, a.data.toList, b.data.toList, c.data.toList⟩
def T (t : S43) : Tm := TT t.f0 t.f1 t.f2 t.f3
def e02 (b : Bool) : Int := if b then 0 else 2
theorem ne_empty {l : List UInt8} (h : ¬ l = []) : l.isEmpty = false := by simpa using h
theorem tcheck_ev (k0 : Int) (a b c : ByteArray) : Ev (fun k => term_Check.f k k0 a b c) (e02 (okTm (TT k0 a b c))) := by
  have main : Ev (fun k => term_Check.j0 k false (if b.data.toList = [] then (c.data.toList == []) else false) k0 a b c) (e02 (okTm (TT k0 a b c))) := by
    refine Ev.step (fun k => by rw [term_Check.j0]) ?_
    unfold okTm TT
    simp only [tl]
    by_cases h2 : k0 = 2
    · subst h2
      simp only [if_neg (show ¬ ((2 : Int) = 0) by decide), if_neg (show ¬ ((2 : Int) = 1) by decide), if_neg (show ¬ ((2 : Int) = 3) by decide), if_true]
      refine Ev.step (fun k => by rw [term_Check.j1]) ?_
      simp only [tl, show ((2 : Int) == 4) = false from rfl, Bool.false_eq_true, if_false, if_true]
      refine Ev.bind (isText_ev a) ?_
      cases hx : okText a.data.toList with
      | false => simp only [Bool.false_eq_true, if_false, Bool.false_and]; exact Ev.now _
      | true =>
        simp only [if_true, Bool.true_and]
        by_cases hb : b.data.toList = []
        · simp only [hb, if_true, List.isEmpty_nil, Bool.true_or, Bool.true_and]
          by_cases hc : c.data.toList = []
          · simp only [hc, if_true, List.isEmpty_nil, Bool.true_or]; exact Ev.now _
          simp only [if_neg hc, ne_empty hc, Bool.false_or]
          refine Ev.bind (isLang_ev c) ?_
          cases okLang c.data.toList <;> simp only [Bool.false_eq_true, if_false, if_true] <;> exact Ev.now _
        simp only [if_neg hb, ne_empty hb, Bool.false_or, isIri_eq, Option.bind_some, Bool.false_and]
        cases okIri b.data.toList with
        | false => simp only [Bool.false_eq_true, if_false, Bool.false_and]; exact Ev.now _
        | true =>
          simp only [if_true, Bool.true_and, Bool.or_false]
          by_cases hc : c.data.toList = []
          · simp only [hc, if_true, List.isEmpty_nil]; exact Ev.now _
          simp only [if_neg hc, ne_empty hc]; exact Ev.now _
    simp only [if_neg h2]
    have hbare : (if b.data.toList = [] then (c.data.toList == []) else false) = (b.data.toList.isEmpty && c.data.toList.isEmpty) := by
      cases b.data.toList <;> cases c.data.toList <;> simp
    simp only [hbare]
    generalize (b.data.toList.isEmpty && c.data.toList.isEmpty) = bare
    by_cases h0 : k0 = 0
    · subst h0
      simp only [if_true]
      cases bare
      · simp only [Bool.false_eq_true, if_false, Bool.false_and]; exact Ev.now _
      simp only [if_true, Bool.true_and]
      by_cases ha : a.data.toList = []
      · simp only [ha, if_true, List.isEmpty_nil]; exact Ev.now _
      simp only [if_neg ha, ne_empty ha]; exact Ev.now _
    simp only [if_neg h0]
    by_cases h1 : k0 = 1
    · subst h1
      simp only [if_true, isIri_eq, Option.bind_some]
      cases bare
      · simp only [Bool.false_eq_true, if_false, Bool.false_and]; exact Ev.now _
      simp only [if_true, Bool.true_and]
      cases okIri a.data.toList <;> simp only [Bool.false_eq_true, if_false, if_true] <;> exact Ev.now _
    simp only [if_neg h1]
    have hj : ∀ x : Bool, x = decide (k0 = 3 ∨ k0 = 4) → Ev (fun k => term_Check.j1 k false bare k0 x k0 a b c) (e02 (bare && (if k0 = 3 ∨ k0 = 4 then okName a.data.toList else false))) := by
      intro x hx
      refine Ev.step (fun k => by rw [term_Check.j1]) ?_
      by_cases h34 : k0 = 3 ∨ k0 = 4
      · rw [decide_eq_true h34] at hx
        subst hx
        simp only [if_true, if_pos h34]
        cases bare
        · simp only [Bool.false_eq_true, if_false, Bool.false_and]; exact Ev.now _
        simp only [if_true, Bool.true_and]
        refine Ev.bind (isName_ev a) ?_
        cases okName a.data.toList <;> simp only [Bool.false_eq_true, if_false, if_true] <;> exact Ev.now _
      rw [decide_eq_false h34] at hx
      subst hx
      simp only [Bool.false_eq_true, if_false, if_neg h34, if_neg h2, Bool.and_false]
      exact Ev.now _
    by_cases h3 : k0 = 3
    · simp only [if_pos h3]
      exact hj _ (by simp [h3])
    simp only [if_neg h3]
    exact hj _ (by rw [Bool.eq_iff_iff]; simp [h3])
  unfold term_Check.f
  simp only [tl]
  by_cases hb : b.data.toList = []
  · simp only [if_pos hb] at main ⊢
    exact main
  simp only [if_neg hb] at main ⊢
  exact main

/-! ### the reference's -/
def kindB (n : Int) (c : UInt8) : Bool := if n = 1 then iriC c else if n = 2 then textB c else if n = 3 then nameB c else if n = 4 then langB c else false
theorem okName_all (l : List UInt8) : okName l = (decide (1 ≤ l.length) && decide (l.length ≤ 32) && l.all nameB && (match l with | c :: _ => isLet c | [] => false)) := by
  cases l with
  | nil => rfl
  | cons c r =>
    unfold okName
    rw [Bool.eq_iff_iff]
    simp only [Bool.and_eq_true, decide_eq_true_eq, List.length_cons, List.all_cons]
    constructor
    · rintro ⟨⟨h1, h2⟩, h3⟩
      exact ⟨⟨⟨by omega, by omega⟩, by simp [nameB, h1], h2⟩, h1⟩
    rintro ⟨⟨⟨h1, h2⟩, h3, h4⟩, h5⟩
    exact ⟨⟨h5, h4⟩, by omega⟩
end Go.Proofs.YtgabadlneeffkaaGreatDoor.P

/- What the printed functions of table.Check, result.Check and of their references come to. -/
namespace Go.Proofs.YtgabadlneeffkaaGreatDoor.P
open Go.RowKit Go.Lib Go.Proofs.YtgabadlneeffkaaGreatDoor Go.Proofs.YtgabadlneeffkaaGreatDoorW.PrintWords Go.Proofs.YtgabadlneeffkaaGreatDoorW.PrintLast
set_option linter.unusedVariables false
set_option linter.unusedSimpArgs false

theorem get_of_drop {α : Type} {xs : List α} {i : Nat} {c : α} {r : List α} (h : xs.drop i = c :: r) (d : α) : xs.getD ((i : Int)).toNat d = c ∧ i < xs.length ∧ xs.drop (i + 1) = r ∧ xs.take (i + 1) = xs.take i ++ [c] := by
  have hi : i < xs.length := by
    rcases Nat.lt_or_ge i xs.length with h' | h'
    · exact h'
    rw [List.drop_eq_nil_of_le h'] at h; cases h
  have h2 := List.drop_eq_getElem_cons hi
  rw [h] at h2
  injection h2 with h3 h4
  refine ⟨?_, hi, h4.symm, ?_⟩
  · rw [Int.toNat_natCast, List.getD_eq_getElem?_getD, List.getElem?_eq_getElem hi, h3]; rfl
  rw [List.take_add_one, List.getElem?_eq_getElem hi, h3]; rfl
theorem len_of_drop {α : Type} {xs : List α} {i : Nat} (h : xs.drop i = []) : xs.length ≤ i := List.drop_eq_nil_iff.1 h
def B (l : List ByteArray) : List (List UInt8) := l.map (·.data.toList)
theorem B_len (l : List ByteArray) : (B l).length = l.length := by simp [B]
def idxOf (a : List UInt8) : List (List UInt8) → Nat → Int
  | [], _ => -1
  | h :: t, i => if a = h then (i : Int) else idxOf a t (i + 1)
theorem idxOf_ge (a : List UInt8) : ∀ (l : List (List UInt8)) (i : Nat), decide (idxOf a l i ≥ 0) = l.contains a
  | [], i => by simp [idxOf]
  | h :: t, i => by
    unfold idxOf
    by_cases e : a = h
    · simp [e]
    rw [if_neg e, idxOf_ge a t (i + 1), List.contains_cons, beq_eq_false_iff_ne.mpr e, Bool.false_or]
theorem index_loop (x : List ByteArray) (hx : x.length ≤ 9223372036854775807) (a : ByteArray) : ∀ (r : List ByteArray) (i : Nat), x.drop i = r →
    Ev (fun k => slices_Index_string_string.l0 k x a (x.length : Int) (i : Int)) (idxOf a.data.toList (B r) i) := by
  intro r
  induction r with
  | nil =>
    intro i hd
    have := len_of_drop hd
    refine Ev.step (fun k => by rw [slices_Index_string_string.l0]) ?_
    simp only [if_neg (show ¬ ((i : Int) < (x.length : Int)) by omega)]
    exact Ev.now _
  | cons c r ih =>
    intro i hd
    obtain ⟨hg, hi, hr, _⟩ := get_of_drop hd ByteArray.empty
    refine Ev.step (fun k => by rw [slices_Index_string_string.l0]) ?_
    have e : rdOf ByteArray.empty x (i : Int) = c := hg
    simp only [if_pos (show (i : Int) < (x.length : Int) by omega), if_pos (show (0 : Int) ≤ (i : Int) by omega), e, wrap_succ (show i < 9223372036854775807 by omega), tl]
    rw [show B (c :: r) = c.data.toList :: B r from rfl, idxOf]
    by_cases h : a.data.toList = c.data.toList
    · simp only [if_pos h]; exact Ev.now _
    simp only [if_neg h]; exact ih (i + 1) hr
theorem contains_ev (x : List ByteArray) (hx : x.length ≤ 9223372036854775807) (a : ByteArray) : Ev (fun k => slices_Contains_string_string.f k x a) ((B x).contains a.data.toList) := by
  unfold slices_Contains_string_string.f slices_Index_string_string.f
  refine Ev.bind (index_loop x hx a x 0 rfl) ?_
  rw [idxOf_ge]
  exact Ev.now _
/-! ### tables -/
def nmOK : List (List UInt8) → List (List UInt8) → Bool
  | _, [] => true
  | p, v :: r => okName v && !p.contains v && nmOK (p ++ [v]) r
def cellOK (t : S43) : Bool := !(t.f0 == 4) && okTm (T t)
def rowOK (n : Nat) (row : List S43) : Bool := row.length == n && row.all cellOK
def tabOK (vars : List ByteArray) (rows : List (List S43)) : Bool := decide (vars.length ≤ 32) && decide (rows.length ≤ 4096) && nmOK [] (B vars) && rows.all (rowOK vars.length)
theorem e02_false : e02 false = 2 := rfl
theorem e02_true : e02 true = 0 := rfl
theorem cells_loop (vars : List ByteArray) (rows : List (List S43)) (i : Nat) (row : List S43) (hrow : row.length ≤ 9223372036854775807) (hi : i < 9223372036854775807) (v : Bool)
    (hn : Ev (fun k => table_Check.l1 k rows (rows.length : Int) ((i + 1 : Nat) : Int) vars rows) (e02 v)) : ∀ (r : List S43) (j : Nat), row.drop j = r →
    Ev (fun k => table_Check.l2 k rows (rows.length : Int) (i : Int) row (row.length : Int) (j : Int) vars rows) (e02 (r.all cellOK && v)) := by
  intro r
  induction r with
  | nil =>
    intro j hd
    have := len_of_drop hd
    refine Ev.step (fun k => by rw [table_Check.l2]) ?_
    simp only [if_neg (show ¬ ((j : Int) < (row.length : Int)) by omega), wrap_succ hi]
    exact hn
  | cons c r ih =>
    intro j hd
    obtain ⟨hg, hj, hr, _⟩ := get_of_drop hd z43
    refine Ev.step (fun k => by rw [table_Check.l2]) ?_
    have e : rd_T43 row (j : Int) = c := hg
    simp only [if_pos (show (j : Int) < (row.length : Int) by omega), if_pos (show (0 : Int) ≤ (j : Int) by omega), e, wrap_succ (show j < 9223372036854775807 by omega)]
    rw [List.all_cons, cellOK]
    by_cases h4 : c.f0 = 4
    · simp only [if_pos h4, h4, beq_self_eq_true, Bool.not_true, Bool.false_and]; exact Ev.now _
    simp only [if_neg h4, beq_eq_false_iff_ne.mpr h4, Bool.not_false, Bool.true_and]
    refine Ev.bind (tcheck_ev c.f0 c.f1 c.f2 c.f3) ?_
    rw [show TT c.f0 c.f1 c.f2 c.f3 = T c from rfl]
    cases okTm (T c) with
    | false => simp only [e02_false, if_neg (show ¬ ((2 : Int) = 0) by decide), Bool.false_and]; exact Ev.now _
    | true => simp only [e02_true, if_true, Bool.true_and]; exact ih (j + 1) hr
theorem rows_loop (vars : List ByteArray) (hv : vars.length ≤ 32) (rows : List (List S43)) (hrows : rows.length ≤ 4096) : ∀ (r : List (List S43)) (i : Nat), rows.drop i = r →
    Ev (fun k => table_Check.l1 k rows (rows.length : Int) (i : Int) vars rows) (e02 (r.all (rowOK vars.length))) := by
  intro r
  induction r with
  | nil =>
    intro i hd
    have := len_of_drop hd
    refine Ev.step (fun k => by rw [table_Check.l1]) ?_
    simp only [if_neg (show ¬ ((i : Int) < (rows.length : Int)) by omega)]
    exact Ev.now _
  | cons c r ih =>
    intro i hd
    obtain ⟨hg, hi, hr, _⟩ := get_of_drop hd ([] : List S43)
    refine Ev.step (fun k => by rw [table_Check.l1]) ?_
    have e : rd_L3 rows (i : Int) = c := hg
    simp only [if_pos (show (i : Int) < (rows.length : Int) by omega), if_pos (show (0 : Int) ≤ (i : Int) by omega), e]
    rw [List.all_cons, rowOK]
    by_cases hl : c.length = vars.length
    · simp only [if_pos (show (c.length : Int) = (vars.length : Int) by omega), hl, beq_self_eq_true, Bool.true_and]
      have := cells_loop vars rows i c (by omega) (by omega) _ (ih (i + 1) hr) c 0 rfl
      rw [hl] at this
      exact this
    simp only [if_neg (show ¬ ((c.length : Int) = (vars.length : Int)) by omega), beq_eq_false_iff_ne.mpr hl, Bool.false_and]
    exact Ev.now _
theorem names_loop (vars : List ByteArray) (hv : vars.length ≤ 32) (rows : List (List S43)) (hrows : rows.length ≤ 4096) : ∀ (r : List ByteArray) (i : Nat), vars.drop i = r →
    Ev (fun k => table_Check.l0 k vars (vars.length : Int) (i : Int) vars rows) (e02 (nmOK (B (vars.take i)) (B r) && rows.all (rowOK vars.length))) := by
  intro r
  induction r with
  | nil =>
    intro i hd
    have := len_of_drop hd
    refine Ev.step (fun k => by rw [table_Check.l0]) ?_
    simp only [if_neg (show ¬ ((i : Int) < (vars.length : Int)) by omega)]
    rw [show B [] = [] from rfl, nmOK, Bool.true_and]
    exact rows_loop vars hv rows hrows rows 0 rfl
  | cons c r ih =>
    intro i hd
    obtain ⟨hg, hi, hr, ht⟩ := get_of_drop hd ByteArray.empty
    refine Ev.step (fun k => by rw [table_Check.l0]) ?_
    have e : rdOf ByteArray.empty vars (i : Int) = c := hg
    simp only [if_pos (show (i : Int) < (vars.length : Int) by omega), if_pos (show (0 : Int) ≤ (i : Int) by omega), if_pos (show (i : Int) ≤ (vars.length : Int) by omega), e, wrap_succ (show i < 9223372036854775807 by omega), Int.toNat_natCast]
    rw [show B (c :: r) = c.data.toList :: B r from rfl, nmOK]
    refine Ev.bind (isName_ev c) ?_
    cases okName c.data.toList with
    | false => simp only [Bool.false_eq_true, if_false, Bool.false_and]; exact Ev.now _
    | true =>
      simp only [if_true, Bool.true_and]
      refine Ev.bind (contains_ev (vars.take i) (by rw [List.length_take]; omega) c) ?_
      cases (B (vars.take i)).contains c.data.toList with
      | true => simp only [if_true, Bool.not_true, Bool.false_and]; exact Ev.now _
      | false =>
        simp only [Bool.false_eq_true, if_false, Bool.not_false, Bool.true_and]
        have h := ih (i + 1) hr
        rw [ht] at h
        rw [show B (vars.take i) ++ [c.data.toList] = B (vars.take i ++ [c]) by simp [B]]
        exact h
theorem tabcheck_ev (vars : List ByteArray) (rows : List (List S43)) : Ev (fun k => table_Check.f k vars rows) (e02 (tabOK vars rows)) := by
  unfold table_Check.f tabOK
  by_cases h1 : vars.length ≤ 32
  · simp only [if_neg (show ¬ ((vars.length : Int) > 32) by omega), decide_eq_true h1, Bool.true_and]
    refine Ev.step (fun k => by rw [table_Check.j0]) ?_
    by_cases h2 : rows.length ≤ 4096
    · simp only [decide_eq_false (show ¬ ((rows.length : Int) > 4096) by omega), Bool.false_eq_true, if_false, decide_eq_true h2, Bool.true_and]
      exact names_loop vars h1 rows h2 vars 0 rfl
    simp only [decide_eq_true (show (rows.length : Int) > 4096 by omega), if_true, decide_eq_false h2, Bool.false_and]
    exact Ev.now _
  simp only [if_pos (show (vars.length : Int) > 32 by omega), decide_eq_false h1, Bool.false_and]
  refine Ev.step (fun k => by rw [table_Check.j0]) ?_
  simp only [if_true]
  exact Ev.now _

/-! ### the reference's table -/
/-! ### replies -/
def rightR (vars : List ByteArray) (rows : List (List S43)) : Bool := tabOK vars [] && rows.all (fun r => tabOK vars [r])
def badR (id kind err : Int) : Prop := id < 0 ∨ id ≥ 4096 ∨ kind < 1 ∨ kind > 3 ∨ (kind = 3 ∧ (err < 1 ∨ err > 9))
instance (id kind err : Int) : Decidable (badR id kind err) := by unfold badR; infer_instance
def chk (id kind : Int) (vars : List ByteArray) (rows : List (List S43)) (truth : Bool) (err : Int) : Int :=
  if badR id kind err then 1
  else if kind = 1 then (if truth = true ∨ ¬ err = 0 ∨ ¬ rightR vars rows = true then 2 else if rows.length > 1024 then 3 else 0)
  else if kind = 2 then (if vars.length = 0 ∧ rows.length = 0 ∧ err = 0 then 0 else 2)
  else (if vars.length = 0 ∧ rows.length = 0 ∧ truth = false then 0 else 2)
theorem chk_loop (a0 a1 : Int) (vars : List ByteArray) (rows : List (List S43)) (hr : rows.length ≤ 9223372036854775807) (tr : Bool) (er : Int) : ∀ (r : List (List S43)) (i : Nat) (y : List (List S43)), rows.drop i = r →
    Ev (fun k => result_Check.l0 k rows (rows.length : Int) (i : Int) a0 a1 vars rows tr er vars y) (if r.all (fun r => tabOK vars [r]) = true then (if rows.length > 1024 then 3 else 0) else 2) := by
  intro r
  induction r with
  | nil =>
    intro i y hd
    have := len_of_drop hd
    refine Ev.step (fun k => by rw [result_Check.l0]) ?_
    simp only [if_neg (show ¬ ((i : Int) < (rows.length : Int)) by omega), List.all_nil, if_true]
    by_cases h : rows.length > 1024
    · simp only [if_pos (show (rows.length : Int) > 1024 by omega), if_pos h]; exact Ev.now _
    simp only [if_neg (show ¬ ((rows.length : Int) > 1024) by omega), if_neg h]; exact Ev.now _
  | cons c r ih =>
    intro i y hd
    obtain ⟨hg, hi, hr, _⟩ := get_of_drop hd ([] : List S43)
    refine Ev.step (fun k => by rw [result_Check.l0]) ?_
    have e : rd_L3 rows (i : Int) = c := hg
    simp only [if_pos (show (i : Int) < (rows.length : Int) by omega), if_pos (show (0 : Int) ≤ (i : Int) by omega), e, Option.bind_some, wrap_succ (show i < 9223372036854775807 by omega)]
    refine Ev.bind (tabcheck_ev vars [c]) ?_
    rw [List.all_cons]
    cases tabOK vars [c] with
    | false => simp only [e02_false, if_neg (show ¬ ((2 : Int) = 0) by decide), Bool.false_and, Bool.false_eq_true, if_false]; exact Ev.now _
    | true => simp only [e02_true, if_true, Bool.true_and]; exact ih (i + 1) _ hr
theorem empty_eq (vars : List ByteArray) (rows : List (List S43)) : result_empty.f vars rows = some (decide (vars.length = 0 ∧ rows.length = 0)) := by
  unfold result_empty.f
  by_cases h : vars.length = 0
  · rw [if_pos (by omega)]
    congr 1
    rw [Bool.eq_iff_iff]
    simp only [h, true_and, beq_iff_eq, decide_eq_true_eq]
    omega
  rw [if_neg (by omega), decide_eq_false (fun x => h x.1)]
theorem bad_j {β : Type} (g : Bool → Nat → Option β) (a0 a1 er : Int) (z : β) (h : Ev (g (decide (badR a0 a1 er))) z) :
    Ev (fun k => if a0 < 0 then g true k else (if a0 ≥ 4096 then g true k else (if a1 < 1 then g true k else (if a1 > 3 then g true k else (if a1 = 3 then (if er < 1 then g true k else g (decide (er > 9)) k) else g false k))))) z := by
  have key : ∀ x : Bool, (x = true ↔ badR a0 a1 er) → Ev (g x) z := by
    intro x hx
    rwa [show x = decide (badR a0 a1 er) by rw [Bool.eq_iff_iff, hx, decide_eq_true_eq]]
  unfold badR at key
  by_cases h1 : a0 < 0
  · simp only [if_pos h1]; exact key true (by simp [h1])
  simp only [if_neg h1]
  by_cases h2 : a0 ≥ 4096
  · simp only [if_pos h2]; exact key true (by simp [h2])
  simp only [if_neg h2]
  by_cases h3 : a1 < 1
  · simp only [if_pos h3]; exact key true (by simp [h3])
  simp only [if_neg h3]
  by_cases h4 : a1 > 3
  · simp only [if_pos h4]; exact key true (by simp [h4])
  simp only [if_neg h4]
  by_cases h5 : a1 = 3
  · simp only [if_pos h5]
    by_cases h6 : er < 1
    · simp only [if_pos h6]; exact key true (by simp [h5, h6])
    simp only [if_neg h6]
    exact key _ (by rw [decide_eq_true_eq]; omega)
  simp only [if_neg h5]
  exact key false (by simp [h1, h2, h3, h4, h5])
theorem chk_ev (a0 a1 : Int) (vars : List ByteArray) (rows : List (List S43)) (hr : rows.length ≤ 9223372036854775807) (tr : Bool) (er : Int) : Ev (fun k => result_Check.f k a0 a1 vars rows tr er) (chk a0 a1 vars rows tr er) := by
  unfold result_Check.f
  refine bad_j (fun b k => result_Check.j0 k b a0 a1 vars rows tr er) a0 a1 er _ ?_
  refine Ev.step (fun k => by rw [result_Check.j0]) ?_
  unfold chk
  by_cases hb : badR a0 a1 er
  · simp only [decide_eq_true hb, if_true, if_pos hb]; exact Ev.now _
  simp only [decide_eq_false hb, Bool.false_eq_true, if_false, if_neg hb]
  by_cases k1 : a1 = 1
  · simp only [if_pos k1]
    have hbad : Ev (fun k => result_Check.j1 k true a0 a1 vars rows tr er vars) 2 := by
      refine Ev.step (fun k => by rw [result_Check.j1]) ?_
      simp only [if_true]; exact Ev.now _
    cases tr with
    | true => simp only [if_true, true_or]; exact hbad
    | false =>
      simp only [Bool.false_eq_true, if_false, false_or]
      by_cases he : er = 0
      · subst he
        simp only [if_true, not_true, false_or]
        refine Ev.bind (tabcheck_ev vars []) ?_
        unfold rightR
        cases tabOK vars [] with
        | false => 
          simp only [e02_false, Bool.false_and, Bool.false_eq_true, not_false_iff, if_true]
          exact hbad
        | true =>
          simp only [e02_true, Bool.true_and]
          refine Ev.step (fun k => by rw [result_Check.j1]) ?_
          simp only [show ((0 : Int) != 0) = false from rfl, Bool.false_eq_true, if_false]
          have h := chk_loop a0 a1 vars rows hr false 0 rows 0 [] rfl
          by_cases ha : rows.all (fun r => tabOK vars [r]) = true
          · rw [if_pos ha] at h
            rw [if_neg (by simpa using ha)]
            exact h
          rw [if_neg ha] at h
          rw [if_pos (by simpa using ha)]
          exact h
      rw [if_pos (Or.inl he)]; simp only [if_neg he]; exact hbad
  simp only [if_neg k1]
  by_cases k2 : a1 = 2
  · simp only [if_pos k2, empty_eq, Option.bind_some]
    by_cases hz : vars.length = 0 ∧ rows.length = 0
    · simp only [decide_eq_true hz, if_true, hz.1, hz.2, true_and]
      by_cases he : er = 0
      · simp only [if_pos he]; exact Ev.now _
      simp only [if_neg he]; exact Ev.now _
    simp only [decide_eq_false hz, Bool.false_eq_true, if_false, if_neg (fun h : vars.length = 0 ∧ rows.length = 0 ∧ er = 0 => hz ⟨h.1, h.2.1⟩)]; exact Ev.now _
  simp only [if_neg k2]
  have k3 : a1 = 3 := by unfold badR at hb; omega
  simp only [if_pos k3, empty_eq, Option.bind_some]
  by_cases hz : vars.length = 0 ∧ rows.length = 0
  · simp only [decide_eq_true hz, if_true, hz.1, hz.2, true_and]
    cases tr with
    | true => simp only [if_true, Bool.true_eq_false, if_false]; exact Ev.now _
    | false => simp only [Bool.false_eq_true, if_false, if_true]; exact Ev.now _
  simp only [decide_eq_false hz, Bool.false_eq_true, if_false, if_neg (fun h : vars.length = 0 ∧ rows.length = 0 ∧ tr = false => hz ⟨h.1, h.2.1⟩)]; exact Ev.now _
end Go.Proofs.YtgabadlneeffkaaGreatDoor.P

/- What the reference's functions of terms come to: the plain words of St.lean. -/
namespace Go.Proofs.YtgabadlneeffkaaGreatDoor.P
open Go.RowKit Go.Lib Go.Proofs.YtgabadlneeffkaaGreatDoor Go.Proofs.YtgabadlneeffkaaGreatDoorW.PrintWords Go.Proofs.YtgabadlneeffkaaGreatDoorW.PrintLast
set_option linter.unusedVariables false
set_option linter.unusedSimpArgs false

theorem btw_eq (a f t : Int) : legationref01_Between.f a f t = some (decide (f ≤ a) && decide (a ≤ t)) := by
  unfold legationref01_Between.f
  by_cases h : a ≥ f
  · rw [if_pos h, decide_eq_true (show f ≤ a from h)]; simp
  rw [if_neg h, decide_eq_false (show ¬ f ≤ a from h)]; simp
theorem is_ev (c : UInt8) : Ev (fun k => legationref01_Is.f k (c.toNat : Int) (⟨#[60, 62, 34, 123, 125, 124, 94, 96, 92]⟩ : ByteArray)) ([60, 62, 34, 123, 125, 124, 94, 96, 92].contains c.toNat) := by
  refine Ev.of (k := 12) (fun k => legationref01_Is.mono _ _ k) ?_
  exact forall_byte (P := fun c => legationref01_Is.f 12 (c.toNat : Int) (⟨#[60, 62, 34, 123, 125, 124, 94, 96, 92]⟩ : ByteArray) = some ([60, 62, 34, 123, 125, 124, 94, 96, 92].contains c.toNat)) (by decide +kernel) c

theorem all_loop (s : ByteArray) (hs : s.size ≤ 9223372036854775807) (n : Int) : ∀ (r : List UInt8) (i : Nat), s.data.toList.drop i = r → i ≤ s.size →
    Ev (fun k => legationref01_All.l0 k s n (i : Int)) (r.all (kindB n)) := by
  intro r
  induction r with
  | nil =>
    intro i hd hi
    have := size_of_drop hd
    refine Ev.step (fun k => by rw [legationref01_All.l0]) ?_
    simp only [if_neg (show ¬ ((i : Int) < (s.size : Int)) by omega)]
    exact Ev.now _
  | cons c r ih =>
    intro i hd hi
    obtain ⟨hb, his, hr⟩ := bt_of_drop hd
    refine Ev.step (fun k => by rw [legationref01_All.l0]) ?_
    simp only [if_pos (show (i : Int) < (s.size : Int) by omega), if_pos (show (0 : Int) ≤ (i : Int) by omega), hb, wrap_succ (show i < 9223372036854775807 by omega), btw_eq, Option.bind_some]
    have h := ih (i + 1) hr (by omega)
    rw [List.all_cons]
    by_cases n1 : n = 1
    · subst n1
      simp only [if_true]
      have e : kindB 1 c = (decide (33 ≤ c.toNat) && decide (c.toNat ≤ 126) && !([60, 62, 34, 123, 125, 124, 94, 96, 92].contains c.toNat)) := rfl
      rw [e]
      have e2 : (decide ((33 : Int) ≤ (c.toNat : Int)) && decide ((c.toNat : Int) ≤ 126)) = (decide (33 ≤ c.toNat) && decide (c.toNat ≤ 126)) := by
        rw [Bool.eq_iff_iff]; simp only [Bool.and_eq_true, decide_eq_true_eq]; omega
      rw [e2]
      cases (decide (33 ≤ c.toNat) && decide (c.toNat ≤ 126)) with
      | false => simp only [Bool.false_eq_true, if_false, Bool.false_and]; exact Ev.now _
      | true =>
        simp only [if_true, Bool.true_and]
        refine Ev.bind (is_ev c) ?_
        cases ([60, 62, 34, 123, 125, 124, 94, 96, 92].contains c.toNat) with
        | true => simp only [if_true, Bool.not_true, Bool.false_and]; exact Ev.now _
        | false => simp only [Bool.false_eq_true, if_false, Bool.not_false, Bool.true_and]; exact h
    simp only [if_neg n1]
    by_cases n2 : n = 2
    · subst n2
      simp only [if_true]
      by_cases h1 : 32 ≤ c.toNat ∧ c.toNat ≤ 126
      · have e : kindB 2 c = true := by simp [kindB, textB, h1.1, h1.2]
        rw [e, decide_eq_true (show (32 : Int) ≤ (c.toNat : Int) by omega), decide_eq_true (show (c.toNat : Int) ≤ 126 by omega)]
        simp only [Bool.and_true, if_true, Bool.true_and]; exact h
      have e1 : (decide ((32 : Int) ≤ (c.toNat : Int)) && decide ((c.toNat : Int) ≤ 126)) = false := by
        rw [Bool.eq_false_iff]; simp only [ne_eq, Bool.and_eq_true, decide_eq_true_eq]; omega
      simp only [e1, Bool.false_eq_true, if_false]
      by_cases h2 : c.toNat = 10
      · have e : kindB 2 c = true := by simp [kindB, textB, h2]
        simp only [e, if_pos (show (c.toNat : Int) = 10 by omega), Bool.true_and]; exact h
      simp only [if_neg (show ¬ ((c.toNat : Int) = 10) by omega)]
      by_cases h3 : c.toNat = 9
      · have e : kindB 2 c = true := by simp [kindB, textB, h3]
        simp only [e, if_pos (show (c.toNat : Int) = 9 by omega), Bool.true_and]; exact h
      have e : kindB 2 c = false := by simp [kindB, textB, h2, h3]; omega
      simp only [e, if_neg (show ¬ ((c.toNat : Int) = 9) by omega), Bool.false_and]; exact Ev.now _
    simp only [if_neg n2]
    by_cases n3 : n = 3
    · subst n3
      simp only [if_true]
      have e : kindB 3 c = nameB c := rfl
      rw [e]
      have q1 : (decide ((97 : Int) ≤ (c.toNat : Int)) && decide ((c.toNat : Int) ≤ 122)) = (decide (97 ≤ c.toNat) && decide (c.toNat ≤ 122)) := by
        rw [Bool.eq_iff_iff]; simp only [Bool.and_eq_true, decide_eq_true_eq]; omega
      have q2 : (decide ((65 : Int) ≤ (c.toNat : Int)) && decide ((c.toNat : Int) ≤ 90)) = (decide (65 ≤ c.toNat) && decide (c.toNat ≤ 90)) := by
        rw [Bool.eq_iff_iff]; simp only [Bool.and_eq_true, decide_eq_true_eq]; omega
      have q3 : (decide ((48 : Int) ≤ (c.toNat : Int)) && decide ((c.toNat : Int) ≤ 57)) = isDig c := by
        unfold isDig
        rw [Bool.eq_iff_iff]; simp only [Bool.and_eq_true, decide_eq_true_eq]; omega
      rw [q1, q2, q3]
      unfold nameB isLet
      cases (decide (97 ≤ c.toNat) && decide (c.toNat ≤ 122)) with
      | true => simp only [if_true, Bool.true_or, Bool.true_and]; exact h
      | false =>
        simp only [Bool.false_eq_true, if_false, Bool.false_or]
        cases (decide (65 ≤ c.toNat) && decide (c.toNat ≤ 90)) with
        | true => simp only [if_true, Bool.true_or, Bool.true_and]; exact h
        | false =>
          simp only [Bool.false_eq_true, if_false, Bool.false_or]
          cases isDig c with
          | true => simp only [if_true, Bool.true_or, Bool.true_and]; exact h
          | false =>
            simp only [Bool.false_eq_true, if_false, Bool.false_or]
            by_cases h95 : c.toNat = 95
            · simp only [h95, if_pos (show ((95 : Nat) : Int) = 95 from rfl), beq_self_eq_true, Bool.true_and]; exact h
            simp only [if_neg (show ¬ ((c.toNat : Int) = 95) by omega), beq_eq_false_iff_ne.mpr h95, Bool.false_and]; exact Ev.now _
    simp only [if_neg n3]
    by_cases n4 : n = 4
    · subst n4
      simp only [if_true]
      have e : kindB 4 c = (decide (97 ≤ c.toNat) && decide (c.toNat ≤ 122)) := rfl
      have q1 : (decide ((97 : Int) ≤ (c.toNat : Int)) && decide ((c.toNat : Int) ≤ 122)) = (decide (97 ≤ c.toNat) && decide (c.toNat ≤ 122)) := by
        rw [Bool.eq_iff_iff]; simp only [Bool.and_eq_true, decide_eq_true_eq]; omega
      rw [e, q1]
      cases (decide (97 ≤ c.toNat) && decide (c.toNat ≤ 122)) with
      | true => simp only [if_true, Bool.true_and]; exact h
      | false => simp only [Bool.false_eq_true, if_false, Bool.false_and]; exact Ev.now _
    simp only [if_neg n4, show kindB n c = false by simp [kindB, n1, n2, n3, n4], Bool.false_and]
    exact Ev.now _
theorem all_ev (s : ByteArray) (hs : s.size ≤ 9223372036854775807) (n : Int) : Ev (fun k => legationref01_All.f k s n) (s.data.toList.all (kindB n)) := by
  unfold legationref01_All.f
  exact all_loop s hs n _ 0 rfl (by omega)
theorem rIri_ev (s : ByteArray) : Ev (fun k => legationref01_IsIri.f k s) (okIri s.data.toList) := by
  unfold legationref01_IsIri.f okIri
  rw [size_toList]
  by_cases h1 : 1 ≤ s.size
  · have e0 : s.data.toList.isEmpty = false := by
      rw [← size_toList] at h1
      cases h : s.data.toList with
      | nil => rw [h] at h1; simp at h1
      | cons a l => rfl
    simp only [if_pos (show (s.size : Int) ≥ 1 by omega), e0, Bool.not_false, Bool.true_and]
    by_cases h2 : s.size ≤ 4096
    · simp only [if_pos (show (s.size : Int) ≤ 4096 by omega), decide_eq_true h2, Bool.true_and]
      exact Ev.bind (all_ev s (by omega) 1) (Ev.now _)
    simp only [if_neg (show ¬ ((s.size : Int) ≤ 4096) by omega), decide_eq_false h2, Bool.false_and]
    exact Ev.now _
  have e0 : s.data.toList.isEmpty = true := by
    rw [← size_toList] at h1
    cases h : s.data.toList with
    | nil => rfl
    | cons a l => rw [h] at h1; simp at h1
  simp only [if_neg (show ¬ ((s.size : Int) ≥ 1) by omega), e0, Bool.not_true, Bool.false_and]
  exact Ev.now _
theorem rLang_ev (s : ByteArray) : Ev (fun k => legationref01_IsLang.f k s) (okLang s.data.toList) := by
  unfold legationref01_IsLang.f okLang
  rw [size_toList]
  by_cases h1 : 1 ≤ s.size
  · have e0 : s.data.toList.isEmpty = false := by
      rw [← size_toList] at h1
      cases h : s.data.toList with
      | nil => rw [h] at h1; simp at h1
      | cons a l => rfl
    simp only [if_pos (show (s.size : Int) ≥ 1 by omega), e0, Bool.not_false, Bool.true_and]
    by_cases h2 : s.size ≤ 8
    · simp only [if_pos (show (s.size : Int) ≤ 8 by omega), decide_eq_true h2, Bool.true_and]
      exact Ev.bind (all_ev s (by omega) 4) (Ev.now _)
    simp only [if_neg (show ¬ ((s.size : Int) ≤ 8) by omega), decide_eq_false h2, Bool.false_and]
    exact Ev.now _
  have e0 : s.data.toList.isEmpty = true := by
    rw [← size_toList] at h1
    cases h : s.data.toList with
    | nil => rfl
    | cons a l => rw [h] at h1; simp at h1
  simp only [if_neg (show ¬ ((s.size : Int) ≥ 1) by omega), e0, Bool.not_true, Bool.false_and]
  exact Ev.now _
theorem rName_ev (s : ByteArray) : Ev (fun k => legationref01_IsName.f k s) (okName s.data.toList) := by
  unfold legationref01_IsName.f
  rw [okName_all, size_toList]
  by_cases h1 : 1 ≤ s.size
  · simp only [if_pos (show (s.size : Int) ≥ 1 by omega), decide_eq_true h1, Bool.true_and]
    by_cases h2 : s.size ≤ 32
    · simp only [if_pos (show (s.size : Int) ≤ 32 by omega), decide_eq_true h2, Bool.true_and]
      refine Ev.bind (all_ev s (by omega) 3) ?_
      rw [show (kindB 3) = nameB from rfl]
      cases s.data.toList.all nameB with
      | false => simp only [Bool.false_eq_true, if_false, Bool.false_and]; exact Ev.now _
      | true =>
        simp only [if_true, Bool.true_and, if_pos (show (0 : Int) < (s.size : Int) by omega)]
        cases hl : s.data.toList with
        | nil => rw [← size_toList, hl] at h1; simp at h1
        | cons c r =>
          have hb : bt s 0 = (c.toNat : Int) := (bt_of_drop (s := s) (i := 0) (by rw [List.drop_zero]; exact hl)).1
          simp only [hb, btw_eq, Option.bind_some]
          have q1 : (decide ((97 : Int) ≤ (c.toNat : Int)) && decide ((c.toNat : Int) ≤ 122)) = (decide (97 ≤ c.toNat) && decide (c.toNat ≤ 122)) := by
            rw [Bool.eq_iff_iff]; simp only [Bool.and_eq_true, decide_eq_true_eq]; omega
          have q2 : (decide ((65 : Int) ≤ (c.toNat : Int)) && decide ((c.toNat : Int) ≤ 90)) = (decide (65 ≤ c.toNat) && decide (c.toNat ≤ 90)) := by
            rw [Bool.eq_iff_iff]; simp only [Bool.and_eq_true, decide_eq_true_eq]; omega
          rw [q1, q2]
          unfold isLet
          cases (decide (97 ≤ c.toNat) && decide (c.toNat ≤ 122)) <;> simp only [Bool.false_eq_true, if_false, if_true, Bool.true_or, Bool.false_or] <;> exact Ev.now _
    simp only [if_neg (show ¬ ((s.size : Int) ≤ 32) by omega), decide_eq_false h2, Bool.false_and]
    exact Ev.now _
  simp only [if_neg (show ¬ ((s.size : Int) ≥ 1) by omega), decide_eq_false h1, Bool.false_and]
  exact Ev.now _
theorem rright_ev (k0 : Int) (a b c : ByteArray) : Ev (fun k => legationref01_Right.f k k0 a b c) (okTm (TT k0 a b c)) := by
  unfold legationref01_Right.f okTm TT
  simp only [tl]
  by_cases h2 : k0 = 2
  · subst h2
    simp only [if_true]
    unfold okText
    rw [size_toList]
    by_cases hz : a.size ≤ 4096
    · simp only [if_pos (show (a.size : Int) ≤ 4096 by omega), decide_eq_true hz, Bool.true_and]
      refine Ev.bind (all_ev a (by omega) 2) ?_
      rw [show (kindB 2) = textB from rfl]
      cases a.data.toList.all textB with
      | false => simp only [Bool.false_eq_true, if_false, Bool.false_and]; exact Ev.now _
      | true =>
        simp only [if_true, Bool.true_and]
        by_cases hb : b.data.toList = []
        · simp only [hb, if_true, List.isEmpty_nil, Bool.true_or, Bool.true_and]
          by_cases hc : c.data.toList = []
          · simp only [hc, if_true, List.isEmpty_nil, Bool.true_or]; exact Ev.now _
          simp only [if_neg hc, ne_empty hc, Bool.false_or]
          exact Ev.bind (rLang_ev c) (Ev.now _)
        simp only [if_neg hb, ne_empty hb, Bool.false_or, Bool.false_and]
        refine Ev.bind (rIri_ev b) ?_
        cases okIri b.data.toList with
        | false => simp only [Bool.false_eq_true, if_false, Bool.false_and]; exact Ev.now _
        | true =>
          simp only [if_true, Bool.true_and, Bool.or_false]
          by_cases hc : c.data.toList = []
          · simp only [hc, if_true, List.isEmpty_nil]; exact Ev.now _
          simp only [if_neg hc, ne_empty hc]; exact Ev.now _
    simp only [if_neg (show ¬ ((a.size : Int) ≤ 4096) by omega), decide_eq_false hz, Bool.false_and]
    exact Ev.now _
  simp only [if_neg h2]
  have hj : ∀ x : Bool, x = !(b.data.toList.isEmpty && c.data.toList.isEmpty) → Ev (fun k => legationref01_Right.j0 k x k0 a b c) (b.data.toList.isEmpty && c.data.toList.isEmpty && (if k0 = 0 then a.data.toList.isEmpty else if k0 = 1 then okIri a.data.toList else if k0 = 3 ∨ k0 = 4 then okName a.data.toList else false)) := by
    intro x hx
    refine Ev.step (fun k => by rw [legationref01_Right.j0]) ?_
    subst hx
    cases (b.data.toList.isEmpty && c.data.toList.isEmpty) with
    | false => simp only [Bool.not_false, if_true, Bool.false_and]; exact Ev.now _
    | true =>
      simp only [Bool.not_true, Bool.false_eq_true, if_false, Bool.true_and, tl]
      by_cases h0 : k0 = 0
      · simp only [if_pos h0]
        have e : (a.data.toList == ([] : List UInt8)) = a.data.toList.isEmpty := by cases a.data.toList <;> rfl
        rw [e]
        exact Ev.now _
      simp only [if_neg h0]
      by_cases h1 : k0 = 1
      · simp only [if_pos h1]
        exact Ev.bind (rIri_ev a) (Ev.now _)
      simp only [if_neg h1]
      by_cases h3 : k0 = 3
      · simp only [if_pos h3, if_pos (Or.inl h3 : k0 = 3 ∨ k0 = 4)]
        exact Ev.bind (rName_ev a) (Ev.now _)
      simp only [if_neg h3]
      by_cases h4 : k0 = 4
      · simp only [if_pos h4, if_pos (Or.inr h4 : k0 = 3 ∨ k0 = 4)]
        exact Ev.bind (rName_ev a) (Ev.now _)
      simp only [if_neg h4, if_neg (show ¬ (k0 = 3 ∨ k0 = 4) by omega)]
      exact Ev.now _
  by_cases hb : b.data.toList = []
  · simp only [if_pos hb]
    exact hj _ (by rw [hb]; cases c.data.toList <;> simp)
  simp only [if_neg hb]
  exact hj _ (by rw [ne_empty hb]; rfl)
end Go.Proofs.YtgabadlneeffkaaGreatDoor.P

/- What the references' functions of tables and replies come to. -/
namespace Go.Proofs.YtgabadlneeffkaaGreatDoor.P
open Go.RowKit Go.Lib Go.Proofs.YtgabadlneeffkaaGreatDoor Go.Proofs.YtgabadlneeffkaaGreatDoorW.PrintWords Go.Proofs.YtgabadlneeffkaaGreatDoorW.PrintLast
set_option linter.unusedVariables false
set_option linter.unusedSimpArgs false

theorem in_loop (x : List ByteArray) (hx : x.length ≤ 9223372036854775807) (a : ByteArray) : ∀ (r : List ByteArray) (i : Nat), x.drop i = r →
    Ev (fun k => legationref03_In.l0 k x a (i : Int)) ((B r).contains a.data.toList) := by
  intro r
  induction r with
  | nil =>
    intro i hd
    have := len_of_drop hd
    refine Ev.step (fun k => by rw [legationref03_In.l0]) ?_
    simp only [if_neg (show ¬ ((i : Int) < (x.length : Int)) by omega)]
    exact Ev.now _
  | cons c r ih =>
    intro i hd
    obtain ⟨hg, hi, hr, _⟩ := get_of_drop hd ByteArray.empty
    refine Ev.step (fun k => by rw [legationref03_In.l0]) ?_
    have e : rdOf ByteArray.empty x (i : Int) = c := hg
    simp only [if_pos (show (i : Int) < (x.length : Int) by omega), if_pos (show (0 : Int) ≤ (i : Int) by omega), e, wrap_succ (show i < 9223372036854775807 by omega), tl]
    rw [show B (c :: r) = c.data.toList :: B r from rfl, List.contains_cons]
    by_cases h : c.data.toList = a.data.toList
    · simp only [if_pos h, h, beq_self_eq_true, Bool.true_or]; exact Ev.now _
    simp only [if_neg h, beq_eq_false_iff_ne.mpr (Ne.symm h), Bool.false_or]; exact ih (i + 1) hr
theorem in_ev (x : List ByteArray) (hx : x.length ≤ 9223372036854775807) (a : ByteArray) : Ev (fun k => legationref03_In.f k x a) ((B x).contains a.data.toList) := by
  unfold legationref03_In.f
  exact in_loop x hx a x 0 rfl

theorem rcells_loop (vars : List ByteArray) (rows : List (List S43)) (i : Nat) (row : List S43) (hg : rd_L3 rows (i : Int) = row) (hrow : row.length ≤ 9223372036854775807) (hil : i < rows.length) (hi : i < 9223372036854775807) (v : Bool)
    (hn : Ev (fun k => legationref11_Right.l1 k ((i + 1 : Nat) : Int) vars rows) v) : ∀ (r : List S43) (j : Nat), row.drop j = r →
    Ev (fun k => legationref11_Right.l2 k (i : Int) (j : Int) vars rows) (r.all cellOK && v) := by
  intro r
  induction r with
  | nil =>
    intro j hd
    have := len_of_drop hd
    refine Ev.step (fun k => by rw [legationref11_Right.l2]) ?_
    simp only [if_pos (show (0 : Int) ≤ (i : Int) by omega), if_pos (show (i : Int) < (rows.length : Int) by omega), hg, if_neg (show ¬ ((j : Int) < (row.length : Int)) by omega), wrap_succ hi]
    exact hn
  | cons c r ih =>
    intro j hd
    obtain ⟨hg2, hj, hr, _⟩ := get_of_drop hd z43
    refine Ev.step (fun k => by rw [legationref11_Right.l2]) ?_
    have e : rd_T43 row (j : Int) = c := hg2
    simp only [if_pos (show (0 : Int) ≤ (i : Int) by omega), if_pos (show (i : Int) < (rows.length : Int) by omega), hg, if_pos (show (j : Int) < (row.length : Int) by omega), if_pos (show (0 : Int) ≤ (j : Int) by omega), e, wrap_succ (show j < 9223372036854775807 by omega)]
    rw [List.all_cons, cellOK]
    refine Ev.bind (rright_ev c.f0 c.f1 c.f2 c.f3) ?_
    rw [show TT c.f0 c.f1 c.f2 c.f3 = T c from rfl]
    cases okTm (T c) with
    | false => simp only [Bool.false_eq_true, if_false, Bool.and_false, Bool.false_and]; exact Ev.now _
    | true =>
      simp only [if_true, Bool.and_true]
      by_cases h4 : c.f0 = 4
      · simp only [if_pos h4, h4, beq_self_eq_true, Bool.not_true, Bool.false_and]; exact Ev.now _
      simp only [if_neg h4, beq_eq_false_iff_ne.mpr h4, Bool.not_false, Bool.true_and]; exact ih (j + 1) hr
theorem rrows_loop (vars : List ByteArray) (hv : vars.length ≤ 32) (rows : List (List S43)) (hrows : rows.length ≤ 4096) : ∀ (r : List (List S43)) (i : Nat), rows.drop i = r →
    Ev (fun k => legationref11_Right.l1 k (i : Int) vars rows) (r.all (rowOK vars.length)) := by
  intro r
  induction r with
  | nil =>
    intro i hd
    have := len_of_drop hd
    refine Ev.step (fun k => by rw [legationref11_Right.l1]) ?_
    simp only [if_neg (show ¬ ((i : Int) < (rows.length : Int)) by omega)]
    exact Ev.now _
  | cons c r ih =>
    intro i hd
    obtain ⟨hg, hi, hr, _⟩ := get_of_drop hd ([] : List S43)
    refine Ev.step (fun k => by rw [legationref11_Right.l1]) ?_
    have e : rd_L3 rows (i : Int) = c := hg
    simp only [if_pos (show (i : Int) < (rows.length : Int) by omega), if_pos (show (0 : Int) ≤ (i : Int) by omega), e]
    rw [List.all_cons, rowOK]
    by_cases hl : c.length = vars.length
    · simp only [if_pos (show (c.length : Int) = (vars.length : Int) by omega), hl, beq_self_eq_true, Bool.true_and]
      exact rcells_loop vars rows i c e (by omega) hi (by omega) _ (ih (i + 1) hr) c 0 rfl
    simp only [if_neg (show ¬ ((c.length : Int) = (vars.length : Int)) by omega), beq_eq_false_iff_ne.mpr hl, Bool.false_and]
    exact Ev.now _
theorem rnames_loop (vars : List ByteArray) (hv : vars.length ≤ 32) (rows : List (List S43)) (hrows : rows.length ≤ 4096) : ∀ (r : List ByteArray) (i : Nat), vars.drop i = r →
    Ev (fun k => legationref11_Right.l0 k (i : Int) vars rows) (nmOK (B (vars.take i)) (B r) && rows.all (rowOK vars.length)) := by
  intro r
  induction r with
  | nil =>
    intro i hd
    have := len_of_drop hd
    refine Ev.step (fun k => by rw [legationref11_Right.l0]) ?_
    simp only [if_neg (show ¬ ((i : Int) < (vars.length : Int)) by omega)]
    rw [show B [] = [] from rfl, nmOK, Bool.true_and]
    exact rrows_loop vars hv rows hrows rows 0 rfl
  | cons c r ih =>
    intro i hd
    obtain ⟨hg, hi, hr, ht⟩ := get_of_drop hd ByteArray.empty
    refine Ev.step (fun k => by rw [legationref11_Right.l0]) ?_
    have e : rdOf ByteArray.empty vars (i : Int) = c := hg
    simp only [if_pos (show (i : Int) < (vars.length : Int) by omega), if_pos (show (0 : Int) ≤ (i : Int) by omega), if_pos (show (i : Int) ≤ (vars.length : Int) by omega), e, wrap_succ (show i < 9223372036854775807 by omega), Int.toNat_natCast]
    rw [show B (c :: r) = c.data.toList :: B r from rfl, nmOK]
    refine Ev.bind (rName_ev c) ?_
    cases okName c.data.toList with
    | false => simp only [Bool.false_eq_true, if_false, Bool.false_and]; exact Ev.now _
    | true =>
      simp only [if_true, Bool.true_and]
      refine Ev.bind (in_ev (vars.take i) (by rw [List.length_take]; omega) c) ?_
      cases (B (vars.take i)).contains c.data.toList with
      | true => simp only [if_true, Bool.not_true, Bool.false_and]; exact Ev.now _
      | false =>
        simp only [Bool.false_eq_true, if_false, Bool.not_false, Bool.true_and]
        have h := ih (i + 1) hr
        rw [ht] at h
        rw [show B (vars.take i) ++ [c.data.toList] = B (vars.take i ++ [c]) by simp [B]]
        exact h
theorem tabright_ev (vars : List ByteArray) (rows : List (List S43)) : Ev (fun k => legationref11_Right.f k vars rows) (tabOK vars rows) := by
  unfold legationref11_Right.f tabOK
  by_cases h1 : vars.length ≤ 32
  · simp only [if_neg (show ¬ ((vars.length : Int) > 32) by omega), decide_eq_true h1, Bool.true_and]
    refine Ev.step (fun k => by rw [legationref11_Right.j0]) ?_
    by_cases h2 : rows.length ≤ 4096
    · simp only [decide_eq_false (show ¬ ((rows.length : Int) > 4096) by omega), Bool.false_eq_true, if_false, decide_eq_true h2, Bool.true_and]
      exact rnames_loop vars h1 rows h2 vars 0 rfl
    simp only [decide_eq_true (show (rows.length : Int) > 4096 by omega), if_true, decide_eq_false h2, Bool.false_and]
    exact Ev.now _
  simp only [if_pos (show (vars.length : Int) > 32 by omega), decide_eq_false h1, Bool.false_and]
  refine Ev.step (fun k => by rw [legationref11_Right.j0]) ?_
  simp only [if_true]
  exact Ev.now _

theorem rright_loop (vars : List ByteArray) (rows : List (List S43)) (hr : rows.length ≤ 9223372036854775807) : ∀ (r : List (List S43)) (i : Nat), rows.drop i = r →
    Ev (fun k => legationref17_rightRows.l0 k (i : Int) vars rows) (r.all (fun r => tabOK vars [r])) := by
  intro r
  induction r with
  | nil =>
    intro i hd
    have := len_of_drop hd
    refine Ev.step (fun k => by rw [legationref17_rightRows.l0]) ?_
    simp only [if_neg (show ¬ ((i : Int) < (rows.length : Int)) by omega)]
    exact Ev.now _
  | cons c r ih =>
    intro i hd
    obtain ⟨_, hi, hr, ht⟩ := get_of_drop hd ([] : List S43)
    refine Ev.step (fun k => by rw [legationref17_rightRows.l0]) ?_
    have e : (rows.take (i + 1)).drop i = [c] := by
      rw [ht, List.drop_left' (by rw [List.length_take]; omega)]
    simp only [if_pos (show (i : Int) < (rows.length : Int) by omega), if_pos (show (0 : Int) ≤ (i : Int) by omega), wrap_succ (show i < 9223372036854775807 by omega), if_pos (show (i : Int) ≤ ((i + 1 : Nat) : Int) by omega), if_pos (show ((i + 1 : Nat) : Int) ≤ (rows.length : Int) by omega), Int.toNat_natCast, e]
    refine Ev.bind (tabright_ev vars [c]) ?_
    rw [List.all_cons]
    cases tabOK vars [c] with
    | false => simp only [Bool.false_and, Bool.false_eq_true, if_false]; exact Ev.now _
    | true => simp only [if_true, Bool.true_and]; exact ih (i + 1) hr
theorem rrows_ev (vars : List ByteArray) (rows : List (List S43)) (hr : rows.length ≤ 9223372036854775807) : Ev (fun k => legationref17_rightRows.f k vars rows) (rightR vars rows) := by
  unfold legationref17_rightRows.f rightR
  refine Ev.bind (tabright_ev vars []) ?_
  cases tabOK vars [] with
  | false => simp only [Bool.false_and, Bool.false_eq_true, if_false]; exact Ev.now _
  | true => simp only [if_true, Bool.true_and]; exact rright_loop vars rows hr rows 0 rfl
theorem rchk_ev (a0 a1 : Int) (vars : List ByteArray) (rows : List (List S43)) (hr : rows.length ≤ 9223372036854775807) (tr : Bool) (er : Int) : Ev (fun k => legationref17_Check.f k a0 a1 vars rows tr er) (chk a0 a1 vars rows tr er) := by
  unfold legationref17_Check.f
  refine bad_j (fun b k => legationref17_Check.j0 k b a0 a1 vars rows tr er) a0 a1 er _ ?_
  refine Ev.step (fun k => by rw [legationref17_Check.j0]) ?_
  by_cases hb : badR a0 a1 er
  · unfold chk
    simp only [decide_eq_true hb, if_true, if_pos hb]; exact Ev.now _
  simp only [decide_eq_false hb, Bool.false_eq_true, if_false]
  have j2t : Ev (fun k => legationref17_Check.j2 k true a0 a1 vars rows tr er) 2 := by
    refine Ev.step (fun k => by rw [legationref17_Check.j2]) ?_
    simp only [if_true]; exact Ev.now _
  have j2f : Ev (fun k => legationref17_Check.j2 k false a0 a1 vars rows tr er) (if rows.length > 1024 then 3 else 0) := by
    refine Ev.step (fun k => by rw [legationref17_Check.j2]) ?_
    simp only [Bool.false_eq_true, if_false]
    by_cases h : rows.length > 1024
    · simp only [if_pos (show (rows.length : Int) > 1024 by omega), if_pos h]; exact Ev.now _
    simp only [if_neg (show ¬ ((rows.length : Int) > 1024) by omega), if_neg h]; exact Ev.now _
  have j1 : ∀ x : Bool, x = decide (vars.length = 0 ∧ rows.length = 0) → Ev (fun k => legationref17_Check.j1 k x a0 a1 vars rows tr er) (chk a0 a1 vars rows tr er) := by
    intro x hx
    refine Ev.step (fun k => by rw [legationref17_Check.j1]) ?_
    unfold chk
    simp only [if_neg hb]
    by_cases k1 : a1 = 1
    · simp only [if_pos k1, if_neg (show ¬ (a1 = 2) by omega), if_neg (show ¬ (a1 = 3) by omega)]
      cases tr with
      | true => simp only [if_true, true_or]; exact j2t
      | false =>
        simp only [Bool.false_eq_true, if_false, false_or]
        by_cases he : er = 0
        · subst he
          simp only [if_true, not_true, false_or]
          refine Ev.bind (rrows_ev vars rows hr) ?_
          cases rightR vars rows with
          | true => simp only [if_true, not_true, if_false]; exact j2f
          | false => simp only [Bool.false_eq_true, if_false, not_false_iff, if_true, or_true]; exact j2t
        rw [if_pos (Or.inl he)]; simp only [if_neg he]; exact j2t
    simp only [if_neg k1]
    by_cases k2 : a1 = 2
    · simp only [if_pos k2, if_neg (show ¬ (a1 = 3) by omega)]
      by_cases hz : vars.length = 0 ∧ rows.length = 0
      · rw [decide_eq_true hz] at hx
        subst hx
        simp only [if_true, hz.1, hz.2, true_and]
        by_cases he : er = 0
        · simp only [if_pos he]
          rw [if_neg (by omega)] at j2f
          exact j2f
        simp only [if_neg he]; exact j2t
      rw [decide_eq_false hz] at hx
      subst hx
      simp only [Bool.false_eq_true, if_false, if_neg (fun h : vars.length = 0 ∧ rows.length = 0 ∧ er = 0 => hz ⟨h.1, h.2.1⟩)]; exact j2t
    simp only [if_neg k2]
    have k3 : a1 = 3 := by unfold badR at hb; omega
    simp only [if_pos k3]
    by_cases hz : vars.length = 0 ∧ rows.length = 0
    · rw [decide_eq_true hz] at hx
      subst hx
      simp only [if_true, hz.1, hz.2, true_and]
      cases tr with
      | true => simp only [Bool.true_eq_false, if_false]; exact j2t
      | false =>
        simp only [if_true]
        rw [if_neg (by omega)] at j2f
        exact j2f
    rw [decide_eq_false hz] at hx
    subst hx
    simp only [Bool.false_eq_true, if_false, if_neg (fun h : vars.length = 0 ∧ rows.length = 0 ∧ tr = false => hz ⟨h.1, h.2.1⟩)]; exact j2t
  by_cases hv : vars.length = 0
  · simp only [if_pos (show (vars.length : Int) = 0 by omega)]
    refine j1 _ ?_
    rw [Bool.eq_iff_iff]
    simp only [beq_iff_eq, decide_eq_true_eq]
    omega
  simp only [if_neg (show ¬ ((vars.length : Int) = 0) by omega)]
  exact j1 _ (by rw [decide_eq_false (fun h => hv h.1)])
end Go.Proofs.YtgabadlneeffkaaGreatDoor.P

/- What term.Text and result.Put come to. -/
namespace Go.Proofs.YtgabadlneeffkaaGreatDoor.P
open Go.RowKit Go.Lib Go.Proofs.YtgabadlneeffkaaGreatDoor Go.Proofs.YtgabadlneeffkaaGreatDoorW.PrintWords Go.Proofs.YtgabadlneeffkaaGreatDoorW.PrintLast
set_option linter.unusedVariables false
set_option linter.unusedSimpArgs false

theorem ba_ext {x y : ByteArray} (h : x.data.toList = y.data.toList) : x = y := by rw [← ofL_data x, ← ofL_data y, h]
theorem app_data (a b : ByteArray) : (a ++ b).data.toList = a.data.toList ++ b.data.toList := by
  conv => lhs; rw [← ofL_data a, ← ofL_data b, ofL_append, ofL_toList]
theorem esc_len (l : List UInt8) : (esc l).length ≤ 2 * l.length := by
  induction l with
  | nil => simp [esc]
  | cons b l ih =>
    rw [show esc (b :: l) = escB b ++ esc l from rfl, List.length_append, List.length_cons]
    have : (escB b).length ≤ 2 := by
      unfold escB
      repeat' split
      all_goals simp
    omega
theorem quoted_loop (s : ByteArray) (hs : s.size ≤ 4096) : ∀ (r : List UInt8) (i : Nat) (acc : List UInt8), s.data.toList.drop i = r → i ≤ s.size → acc.length ≤ 1 + 2 * i →
    Ev (fun k => term_quoted.l0 k s (nat acc) (i : Int)) (ofL (acc ++ esc r ++ [34])) := by
  intro r
  induction r with
  | nil =>
    intro i acc hd hi ha
    have := size_of_drop hd
    refine Ev.step (fun k => by rw [term_quoted.l0]) ?_
    simp only [if_neg (show ¬ ((i : Int) < (s.size : Int)) by omega), if_pos (show (nat acc).length < 140737488355328 by rw [nat_length]; omega)]
    rw [show nat acc ++ [34] = nat (acc ++ [34]) by rw [nat_append]; rfl, strOfNums_nat, show esc [] = [] from rfl, List.append_nil]
    exact Ev.now _
  | cons c r ih =>
    intro i acc hd hi ha
    obtain ⟨hb, his, hr⟩ := bt_of_drop hd
    have two : ∀ d : UInt8, escB c = [92, d] → Ev (fun k => if (nat acc).length + ([92, (d.toNat : Int)] : List Int).length < 140737488355328 then term_quoted.l0 k s (nat acc ++ [92, (d.toNat : Int)]) ((i + 1 : Nat) : Int) else none) (ofL (acc ++ esc (c :: r) ++ [34])) := by
      intro d hd2
      simp only [if_pos (show (nat acc).length + ([92, (d.toNat : Int)] : List Int).length < 140737488355328 by rw [nat_length]; simp; omega)]
      have h := ih (i + 1) (acc ++ [92, d]) hr (by omega) (by simp; omega)
      rw [nat_append] at h
      rw [show esc (c :: r) = escB c ++ esc r from rfl, hd2, ← List.append_assoc acc]
      exact h
    refine Ev.step (fun k => by rw [term_quoted.l0]) ?_
    simp only [if_pos (show (i : Int) < (s.size : Int) by omega), if_pos (show (0 : Int) ≤ (i : Int) by omega), hb]
    have j1t : (c.toNat = 34 ∨ c.toNat = 92) → Ev (fun k => term_quoted.j1 k s (nat acc) (i : Int) (c.toNat : Int) true) (ofL (acc ++ esc (c :: r) ++ [34])) := by
      intro hc
      refine Ev.step (fun k => by rw [term_quoted.j1]) ?_
      simp only [if_true, if_pos (show (i : Int) < (s.size : Int) by omega), if_pos (show (0 : Int) ≤ (i : Int) by omega), hb, Option.bind_some, wrap_succ (show i < 9223372036854775807 by omega)]
      exact two c (by
        unfold escB
        rcases hc with hc | hc
        · rw [if_pos hc, byte_eq hc (by decide)]
          rfl
        rw [if_neg (by omega), if_pos hc, byte_eq hc (by decide)]
        rfl)
    by_cases h1 : c.toNat = 34
    · simp only [if_pos (show (c.toNat : Int) = 34 by omega), beq_iff_eq.mpr (show (c.toNat : Int) = 34 by omega)]
      exact j1t (.inl h1)
    simp only [if_neg (show ¬ ((c.toNat : Int) = 34) by omega)]
    by_cases h2 : c.toNat = 92
    · simp only [beq_iff_eq.mpr (show (c.toNat : Int) = 92 by omega)]
      exact j1t (.inr h2)
    simp only [beq_eq_false_iff_ne.mpr (show ¬ ((c.toNat : Int) = 92) by omega)]
    refine Ev.step (fun k => by rw [term_quoted.j1]) ?_
    simp only [Bool.false_eq_true, if_false, if_pos (show (i : Int) < (s.size : Int) by omega), if_pos (show (0 : Int) ≤ (i : Int) by omega), hb, Option.bind_some, wrap_succ (show i < 9223372036854775807 by omega)]
    by_cases h3 : c.toNat = 10
    · simp only [if_pos (show (c.toNat : Int) = 10 by omega)]
      exact two 110 (by unfold escB; rw [if_neg h1, if_neg h2, if_pos h3])
    simp only [if_neg (show ¬ ((c.toNat : Int) = 10) by omega)]
    by_cases h4 : c.toNat = 9
    · simp only [if_pos (show (c.toNat : Int) = 9 by omega)]
      exact two 116 (by unfold escB; rw [if_neg h1, if_neg h2, if_neg h3, if_pos h4])
    simp only [if_neg (show ¬ ((c.toNat : Int) = 9) by omega), if_pos (show (nat acc).length < 140737488355328 by rw [nat_length]; omega)]
    have h := ih (i + 1) (acc ++ [c]) hr (by omega) (by simp; omega)
    rw [nat_append] at h
    rw [show esc (c :: r) = escB c ++ esc r from rfl, show escB c = [c] by unfold escB; rw [if_neg h1, if_neg h2, if_neg h3, if_neg h4], ← List.append_assoc acc]
    exact h
theorem quoted_ev (s : ByteArray) (hs : s.size ≤ 4096) : Ev (fun k => term_quoted.f k s) (ofL (34 :: (esc s.data.toList ++ [34]))) := by
  unfold term_quoted.f
  exact quoted_loop s hs _ 0 [34] rfl (by omega) (by simp)
theorem okIri_len {l : List UInt8} (h : okIri l = true) : l.length ≤ 4096 ∧ l ≠ [] := by
  unfold okIri at h
  simp only [Bool.and_eq_true, decide_eq_true_eq, Bool.not_eq_true'] at h
  exact ⟨h.1.2, by intro e; rw [e] at h; simp at h⟩
theorem okName_len {l : List UInt8} (h : okName l = true) : l.length ≤ 32 ∧ l ≠ [] := by
  rw [okName_all] at h
  simp only [Bool.and_eq_true, decide_eq_true_eq] at h
  exact ⟨h.1.1.2, by intro e; rw [e] at h; simp at h⟩
theorem okLang_len {l : List UInt8} (h : okLang l = true) : l.length ≤ 8 := by
  unfold okLang at h
  simp only [Bool.and_eq_true, decide_eq_true_eq] at h
  exact h.1.2
theorem okText_len {l : List UInt8} (h : okText l = true) : l.length ≤ 4096 := by
  unfold okText at h
  simp only [Bool.and_eq_true, decide_eq_true_eq] at h
  exact h.1
theorem okTm_two {t : Tm} (h : okTm t = true) (hk : t.k = 2) : okText t.x = true ∧ (t.ty = [] ∨ (okIri t.ty = true ∧ t.la = [])) ∧ (t.la = [] ∨ okLang t.la = true) := by
  unfold okTm at h
  rw [if_pos hk] at h
  simp only [Bool.and_eq_true, Bool.or_eq_true] at h
  obtain ⟨⟨h1, h2⟩, h3⟩ := h
  refine ⟨h1, ?_, ?_⟩
  · rcases h2 with h2 | h2
    · exact .inl (isEmpty_nil h2)
    refine .inr ⟨h2, ?_⟩
    rcases h3 with h3 | ⟨h3, _⟩
    · exact isEmpty_nil h3
    exact absurd (isEmpty_nil h3) (okIri_len h2).2
  rcases h3 with h3 | ⟨_, h3⟩
  · exact .inl (isEmpty_nil h3)
  exact .inr h3
theorem okTm_other {t : Tm} (h : okTm t = true) (hk : t.k ≠ 2) : t.ty = [] ∧ t.la = [] ∧ t.x.length ≤ 4096 ∧ (t.k = 0 → t.x = []) ∧ (t.k = 1 → okIri t.x = true) ∧ (t.k = 3 ∨ t.k = 4 → okName t.x = true) ∧ (t.k = 0 ∨ t.k = 1 ∨ t.k = 3 ∨ t.k = 4) := by
  unfold okTm at h
  rw [if_neg hk] at h
  simp only [Bool.and_eq_true] at h
  obtain ⟨⟨h1, h2⟩, h3⟩ := h
  by_cases k0 : t.k = 0
  · rw [if_pos k0] at h3
    have := isEmpty_nil h3
    exact ⟨isEmpty_nil h1, isEmpty_nil h2, by rw [this]; simp, fun _ => this, fun h => by omega, fun h => by omega, .inl k0⟩
  rw [if_neg k0] at h3
  by_cases k1 : t.k = 1
  · rw [if_pos k1] at h3
    exact ⟨isEmpty_nil h1, isEmpty_nil h2, (okIri_len h3).1, fun h => by omega, fun _ => h3, fun h => by omega, .inr (.inl k1)⟩
  rw [if_neg k1] at h3
  by_cases k34 : t.k = 3 ∨ t.k = 4
  · rw [if_pos k34] at h3
    exact ⟨isEmpty_nil h1, isEmpty_nil h2, by have := (okName_len h3).1; omega, fun h => by omega, fun h => by omega, fun _ => h3, .inr (.inr k34)⟩
  rw [if_neg k34] at h3; cases h3
theorem ttext_len {t : Tm} (h : okTm t = true) : (ttext t).length ≤ 20000 := by
  by_cases hk : t.k = 2
  · obtain ⟨h1, h2, h3⟩ := okTm_two h hk
    have l1 := esc_len t.x
    have l2 := okText_len h1
    have l3 : t.ty.length ≤ 4096 := by rcases h2 with h2 | h2; rw [h2]; simp; exact (okIri_len h2.1).1
    have l4 : t.la.length ≤ 8 := by rcases h3 with h3 | h3; rw [h3]; simp; exact okLang_len h3
    have e : ttext t = 34 :: (esc t.x ++ 34 :: tail2 t) := by unfold ttext; rw [if_neg (by omega), if_neg (by omega), if_neg (by omega), if_pos hk]
    rw [e]
    have l5 : (tail2 t).length ≤ 4096 + 4 + 9 := by
      unfold tail2
      rw [List.length_append]
      split <;> split <;> simp <;> omega
    simp only [List.length_cons, List.length_append]
    omega
  have h' := (okTm_other h hk).2.2.1
  unfold ttext
  split
  · simp; omega
  split
  · simp; omega
  split
  · simp; omega
  simp
theorem text_ev (k0 : Int) (a b c : ByteArray) (h : okTm (TT k0 a b c) = true) : Ev (fun k => term_Text.f k k0 a b c) (ofL (ttext (TT k0 a b c)), 0) := by
  unfold term_Text.f
  refine Ev.bind (tcheck_ev k0 a b c) ?_
  rw [h, e02_true]
  simp only [if_true, tl]
  by_cases k2 : k0 = 2
  · subst k2
    obtain ⟨h1, h2, h3⟩ := okTm_two h rfl
    have l2 := okText_len h1
    rw [show (TT 2 a b c).x = a.data.toList from rfl, size_toList] at l2
    simp only [if_neg (show ¬ ((2 : Int) = 1) by decide), if_neg (show ¬ ((2 : Int) = 3) by decide), if_neg (show ¬ ((2 : Int) = 4) by decide)]
    refine Ev.bind (quoted_ev a l2) ?_
    have lq := esc_len a.data.toList
    rw [size_toList] at lq
    have e : ttext (TT 2 a b c) = 34 :: (esc a.data.toList ++ 34 :: tail2 (TT 2 a b c)) := rfl
    rw [e]
    by_cases hb : b.data.toList = []
    · simp only [if_pos hb]
      by_cases hc : c.data.toList = []
      · simp only [if_pos hc]
        rw [show tail2 (TT 2 a b c) = [] by
          show (if b.data.toList.isEmpty then _ else _) ++ (if c.data.toList.isEmpty then _ else _) = _
          rw [hb, hc]
          rfl]
        exact Ev.now _
      simp only [if_neg hc]
      have l4 : c.size ≤ 8 := by
        rcases h3 with h3 | h3
        · exact absurd h3 hc
        have := okLang_len h3
        rwa [show (TT 2 a b c).la = c.data.toList from rfl, size_toList] at this
      have z1 : ((⟨#[64]⟩ : ByteArray) ++ c).size = 1 + c.size := by rw [ByteArray.size_append]; rfl
      have z3 : (ofL (34 :: (esc a.data.toList ++ [34]))).size ≤ 8194 := by rw [ofL_size]; simp; omega
      rw [if_pos (by omega), if_pos (by rw [z1]; omega)]
      rw [show tail2 (TT 2 a b c) = 64 :: c.data.toList by
        show (if b.data.toList.isEmpty then _ else _) ++ (if c.data.toList.isEmpty then _ else _) = _
        rw [hb, ne_empty hc]
        rfl]
      rw [show ofL (34 :: (esc a.data.toList ++ 34 :: 64 :: c.data.toList)) = ofL (34 :: (esc a.data.toList ++ [34])) ++ ((⟨#[64]⟩ : ByteArray) ++ c) from ba_ext (by simp [app_data, ofL_toList])]
      exact Ev.now _
    simp only [if_neg hb]
    obtain ⟨h2, hc⟩ : okIri b.data.toList = true ∧ c.data.toList = [] := by
      rcases h2 with h2 | h2
      · exact absurd h2 hb
      exact h2
    have l3 := (okIri_len h2).1
    rw [size_toList] at l3
    have z1 : ((⟨#[94, 94, 60]⟩ : ByteArray) ++ b).size = 3 + b.size := by rw [ByteArray.size_append]; rfl
    have z2 : (((⟨#[94, 94, 60]⟩ : ByteArray) ++ b) ++ (⟨#[62]⟩ : ByteArray)).size = 3 + b.size + 1 := by rw [ByteArray.size_append, z1]; rfl
    have z3 : (ofL (34 :: (esc a.data.toList ++ [34]))).size ≤ 8194 := by rw [ofL_size]; simp; omega
    rw [if_pos (by omega), if_pos (by rw [z1]; omega), if_pos (by rw [z2]; omega), if_pos hc]
    rw [show tail2 (TT 2 a b c) = 94 :: 94 :: 60 :: (b.data.toList ++ [62]) by
      show (if b.data.toList.isEmpty then _ else _) ++ (if c.data.toList.isEmpty then _ else _) = _
      rw [hc, ne_empty hb]
      show _ ++ [] = _
      rw [List.append_nil]
      rfl]
    rw [show ofL (34 :: (esc a.data.toList ++ 34 :: 94 :: 94 :: 60 :: (b.data.toList ++ [62]))) = ofL (34 :: (esc a.data.toList ++ [34])) ++ (((⟨#[94, 94, 60]⟩ : ByteArray) ++ b) ++ (⟨#[62]⟩ : ByteArray)) from ba_ext (by simp [app_data, ofL_toList])]
    exact Ev.now _
  obtain ⟨_, _, hl, hk⟩ := okTm_other h k2
  rw [show (TT k0 a b c).x = a.data.toList from rfl, size_toList] at hl
  by_cases k1 : k0 = 1
  · simp only [if_pos k1]
    have z1 : ((⟨#[60]⟩ : ByteArray) ++ a).size = 1 + a.size := by rw [ByteArray.size_append]; rfl
    rw [if_pos (by omega), if_pos (by rw [z1]; omega)]
    rw [show ttext (TT k0 a b c) = 60 :: (a.data.toList ++ [62]) by simp [ttext, TT, k1]]
    rw [show ofL (60 :: (a.data.toList ++ [62])) = ((⟨#[60]⟩ : ByteArray) ++ a) ++ (⟨#[62]⟩ : ByteArray) from ba_ext (by simp [app_data, ofL_toList])]
    exact Ev.now _
  simp only [if_neg k1]
  by_cases k3 : k0 = 3
  · simp only [if_pos k3]
    rw [if_pos (by omega)]
    rw [show ttext (TT k0 a b c) = 95 :: 58 :: a.data.toList by simp [ttext, TT, k3]]
    rw [show ofL (95 :: 58 :: a.data.toList) = (⟨#[95, 58]⟩ : ByteArray) ++ a from ba_ext (by simp [app_data, ofL_toList])]
    exact Ev.now _
  simp only [if_neg k3]
  by_cases k4 : k0 = 4
  · simp only [if_pos k4]
    rw [if_pos (by omega)]
    rw [show ttext (TT k0 a b c) = 63 :: a.data.toList by simp [ttext, TT, k4]]
    rw [show ofL (63 :: a.data.toList) = (⟨#[63]⟩ : ByteArray) ++ a from ba_ext (by simp [app_data, ofL_toList])]
    exact Ev.now _
  simp only [if_neg k4, if_neg k2]
  rw [show ttext (TT k0 a b c) = [] by simp [ttext, TT, k1, k2, k3, k4]]
  exact Ev.now _
end Go.Proofs.YtgabadlneeffkaaGreatDoor.P

/- What result.Put comes to: the bytes of a reply. -/
namespace Go.Proofs.YtgabadlneeffkaaGreatDoor.P
open Go.RowKit Go.Lib Go.Proofs.YtgabadlneeffkaaGreatDoor Go.Proofs.YtgabadlneeffkaaGreatDoorW.PrintWords Go.Proofs.YtgabadlneeffkaaGreatDoorW.PrintLast
set_option linter.unusedVariables false
set_option linter.unusedSimpArgs false

def joinT : List (List UInt8) → List UInt8
  | [] => []
  | [a] => a
  | a :: b :: r => a ++ 9 :: joinT (b :: r)
theorem joinT_cons (a b : List UInt8) (r : List (List UInt8)) : joinT (a :: b :: r) = a ++ 9 :: joinT (b :: r) := rfl
theorem join_joinT : ∀ l : List (List UInt8), Lib.join l [9] = joinT l
  | [] => rfl
  | [a] => by simp [Lib.join, List.intercalate, joinT]
  | a :: b :: r => by
    have ih := join_joinT (b :: r)
    rw [joinT_cons, ← ih]
    simp [Lib.join, List.intercalate]
theorem joinT_len (M : Nat) : ∀ l : List (List UInt8), (∀ x ∈ l, x.length ≤ M) → (joinT l).length ≤ l.length * (M + 1)
  | [], _ => by simp [joinT]
  | [a], h => by have := h a (by simp); simp [joinT]; omega
  | a :: b :: r, h => by
    have ih := joinT_len M (b :: r) (fun x hx => h x (List.mem_cons_of_mem _ hx))
    have := h a (by simp)
    rw [joinT_cons, List.length_append, List.length_cons]
    rw [show (a :: b :: r).length = (b :: r).length + 1 from rfl, Nat.add_mul]
    omega
def unl (ls : List (List UInt8)) : List UInt8 := ls.flatMap (· ++ [10])
theorem unl_cons (a : List UInt8) (r : List (List UInt8)) : unl (a :: r) = a ++ 10 :: unl r := by simp [unl]
theorem unl_nil : unl [] = [] := rfl
def rowL (row : List S43) : List UInt8 := joinT (row.map fun t => ttext (T t))
def linesOf (id : Nat) (kind : Int) (vars : List ByteArray) (rows : List (List S43)) (tr : Bool) (er : Nat) : List (List UInt8) :=
  dd id :: (if kind = 2 then [if tr then [116, 114, 117, 101] else [102, 97, 108, 115, 101]] else if kind = 3 then [[101, 114, 114, 111, 114, 32] ++ dd er]
    else [114, 111, 119, 115] :: joinT ((B vars).map (63 :: ·)) :: rows.map rowL)
def bytesL (id : Nat) (kind : Int) (vars : List ByteArray) (rows : List (List S43)) (tr : Bool) (er : Nat) : List UInt8 := unl (linesOf id kind vars rows tr er)
def finL (l : List UInt8) : ByteArray × Int := if l.length > 65536 then (⟨#[]⟩, 3) else (ofL l, 0)
theorem finP_eq (out : ByteArray) : finP out = some (finL out.data.toList) := by
  unfold finP finL
  rw [size_toList]
  by_cases h : out.size > 65536
  · rw [if_pos (by omega), if_pos h]
  rw [if_neg (by omega), if_neg h, ofL_data]
theorem cellsT_eq (xs : List ByteArray) (h1 : xs.length ≤ 32) (h2 : ∀ x ∈ xs, x.size ≤ 20001) : cellsT xs = some (ofL (joinT (B xs) ++ [10])) ∧ (joinT (B xs)).length ≤ 700000 := by
  have hl : (joinT (B xs)).length ≤ 32 * 20002 := by
    have := joinT_len 20001 (B xs) (by
      intro x hx
      obtain ⟨y, hy, rfl⟩ := List.mem_map.1 hx
      rw [size_toList]
      exact h2 y hy)
    rw [B_len] at this
    exact Nat.le_trans this (Nat.mul_le_mul_right _ h1)
  refine ⟨?_, by omega⟩
  unfold cellsT strings_Join.f
  rw [show xs.map (·.data.toList) = B xs from rfl, show (⟨#[9]⟩ : ByteArray).data.toList = [9] from rfl, join_joinT, if_pos ⟨by omega, by omega⟩, Option.bind_some]
  have e : (⟨(joinT (B xs)).toArray⟩ : ByteArray) = ofL (joinT (B xs)) := rfl
  rw [e, if_pos (by rw [ofL_size]; omega), show (⟨#[10]⟩ : ByteArray) = ofL [10] from rfl, ofL_append]
theorem cellOK_tm {t : S43} (h : cellOK t = true) : okTm (T t) = true ∧ t.f0 ≠ 4 := by
  unfold cellOK at h
  simp only [Bool.and_eq_true, Bool.not_eq_true', beq_eq_false_iff_ne] at h
  exact ⟨h.2, h.1⟩
theorem rowTexts_ev : ∀ row : List S43, row.all cellOK = true → Ev (fun k => rowTexts k row) (row.map fun t => ofL (ttext (T t)))
  | [], _ => Ev.now _
  | t :: r, h => by
    rw [List.all_cons, Bool.and_eq_true] at h
    have ht := (cellOK_tm h.1).1
    simp only [rowTexts]
    refine Ev.bind (text_ev t.f0 t.f1 t.f2 t.f3 ht) ?_
    refine Ev.bind (rowTexts_ev r h.2) ?_
    exact Ev.now _
theorem B_ofL (l : List (List UInt8)) : B (l.map ofL) = l := by
  unfold B
  rw [List.map_map]
  conv => rhs; rw [← List.map_id l]
  exact List.map_congr_left (fun x _ => ofL_toList x)
theorem rowsP_ev (n : Nat) (hn : n ≤ 32) : ∀ (rows : List (List S43)) (out : ByteArray), rows.all (rowOK n) = true → out.size ≤ 2000000 →
    Ev (fun k => rowsP k rows out) (finL (out.data.toList ++ unl (rows.map rowL)))
  | [], out, _, _ => by
    simp only [rowsP, List.map_nil, unl_nil, List.append_nil]
    rw [finP_eq]
    exact Ev.now _
  | row :: rs, out, h, ho => by
    rw [List.all_cons, Bool.and_eq_true] at h
    obtain ⟨h1, h2⟩ := h
    unfold rowOK at h1
    rw [Bool.and_eq_true, beq_iff_eq] at h1
    obtain ⟨hl, hc⟩ := h1
    simp only [rowsP, if_pos (show row.length < 8796093022208 by omega)]
    refine Ev.bind (rowTexts_ev row hc) ?_
    obtain ⟨c1, c2⟩ := cellsT_eq (row.map fun t => ofL (ttext (T t))) (by rw [List.length_map]; omega) (by
      intro x hx
      obtain ⟨t, ht, rfl⟩ := List.mem_map.1 hx
      rw [ofL_size]
      have := ttext_len (cellOK_tm (List.all_eq_true.1 hc t ht)).1
      omega)
    have e : B (row.map fun t => ofL (ttext (T t))) = row.map fun t => ttext (T t) := by
      have := B_ofL (row.map fun t => ttext (T t))
      rwa [List.map_map] at this
    rw [e] at c1 c2
    rw [show joinT (row.map fun t => ttext (T t)) = rowL row from rfl] at c1 c2
    simp only [c1, Option.bind_some]
    have hz : (out ++ ofL (rowL row ++ [10])).size = out.size + (rowL row ++ [10]).length := by rw [ByteArray.size_append, ofL_size]
    have hd : (out ++ ofL (rowL row ++ [10])).data.toList = out.data.toList ++ (rowL row ++ [10]) := by rw [app_data, ofL_toList]
    have hl2 : (rowL row ++ [10]).length ≤ 700001 := by rw [List.length_append]; simp; omega
    simp only [if_pos (show out.size + (ofL (rowL row ++ [10])).size ≤ 9223372036854775807 by rw [ofL_size]; omega), hz]
    have et : out.data.toList ++ unl ((row :: rs).map rowL) = (out ++ ofL (rowL row ++ [10])).data.toList ++ unl (rs.map rowL) := by
      rw [hd, List.map_cons, unl_cons]
      simp
    rw [et]
    by_cases hb : out.size + (rowL row ++ [10]).length > 65536
    · simp only [if_pos (show ((out.size + (rowL row ++ [10]).length : Nat) : Int) > 65536 by omega)]
      rw [finL, if_pos (by rw [List.length_append, hd, List.length_append, size_toList]; omega)]
      exact Ev.now _
    simp only [if_neg (show ¬ (((out.size + (rowL row ++ [10]).length : Nat) : Int) > 65536) by omega)]
    exact rowsP_ev n hn rs _ h2 (by rw [hz]; omega)
theorem nmOK_all : ∀ (l p : List (List UInt8)), nmOK p l = true → ∀ x ∈ l, okName x = true
  | [], _, _, x, hx => by cases hx
  | v :: r, p, h, x, hx => by
    unfold nmOK at h
    simp only [Bool.and_eq_true] at h
    rcases List.mem_cons.1 hx with rfl | hx
    · exact h.1.1
    exact nmOK_all r _ h.2 x hx
theorem rightR_all {vars : List ByteArray} {rows : List (List S43)} (h : rightR vars rows = true) : vars.length ≤ 32 ∧ (∀ x ∈ B vars, okName x = true) ∧ rows.all (rowOK vars.length) = true := by
  unfold rightR at h
  rw [Bool.and_eq_true] at h
  obtain ⟨h1, h2⟩ := h
  unfold tabOK at h1
  simp only [Bool.and_eq_true, decide_eq_true_eq] at h1
  refine ⟨h1.1.1.1, nmOK_all _ _ h1.1.2, ?_⟩
  rw [List.all_eq_true] at h2 ⊢
  intro r hr
  have := h2 r hr
  unfold tabOK at this
  simp only [Bool.and_eq_true, List.all_cons] at this
  exact this.2.1
/-- what a reply that is right is -/
theorem chk_zero {a0 a1 : Int} {vars : List ByteArray} {rows : List (List S43)} {tr : Bool} {er : Int} (h : chk a0 a1 vars rows tr er = 0) :
    0 ≤ a0 ∧ a0 < 4096 ∧ ((a1 = 1 ∧ tr = false ∧ er = 0 ∧ rightR vars rows = true ∧ rows.length ≤ 1024) ∨ (a1 = 2 ∧ vars = [] ∧ rows = [] ∧ er = 0) ∨ (a1 = 3 ∧ vars = [] ∧ rows = [] ∧ tr = false ∧ 1 ≤ er ∧ er ≤ 9)) := by
  unfold chk at h
  by_cases hb : badR a0 a1 er
  · rw [if_pos hb] at h; cases h
  rw [if_neg hb] at h
  have hb2 : ¬ (a0 < 0 ∨ a0 ≥ 4096 ∨ a1 < 1 ∨ a1 > 3 ∨ (a1 = 3 ∧ (er < 1 ∨ er > 9))) := hb
  refine ⟨by omega, by omega, ?_⟩
  by_cases k1 : a1 = 1
  · rw [if_pos k1] at h
    by_cases h2 : tr = true ∨ ¬ er = 0 ∨ ¬ rightR vars rows = true
    · rw [if_pos h2] at h; cases h
    rw [if_neg h2] at h
    by_cases h3 : rows.length > 1024
    · rw [if_pos h3] at h; cases h
    simp only [not_or, Decidable.not_not, Bool.not_eq_true] at h2
    exact .inl ⟨k1, h2.1, h2.2.1, by simpa using h2.2.2, by omega⟩
  rw [if_neg k1] at h
  by_cases k2 : a1 = 2
  · rw [if_pos k2] at h
    by_cases h2 : vars.length = 0 ∧ rows.length = 0 ∧ er = 0
    · exact .inr (.inl ⟨k2, List.length_eq_zero_iff.1 h2.1, List.length_eq_zero_iff.1 h2.2.1, h2.2.2⟩)
    rw [if_neg h2] at h; cases h
  rw [if_neg k2] at h
  by_cases h2 : vars.length = 0 ∧ rows.length = 0 ∧ tr = false
  · exact .inr (.inr ⟨by omega, List.length_eq_zero_iff.1 h2.1, List.length_eq_zero_iff.1 h2.2.1, h2.2.2, by omega, by omega⟩)
  rw [if_neg h2] at h; cases h
theorem itB_dd (n : Int) (h0 : 0 ≤ n) (h : n < 4096) : itB n = ofL (dd n.toNat) := by
  unfold itB
  rw [show n = ((n.toNat : Nat) : Int) by omega, itoa_dd _ (by omega), Int.toNat_natCast]
  rfl
theorem dd_len (n : Nat) : (dd n).length ≤ 4 := by
  unfold dd
  repeat' split
  all_goals simp
theorem fbB_eq (b : Bool) : fbB b = ofL (if b then [116, 114, 117, 101] else [102, 97, 108, 115, 101]) := by
  have key : ∀ b : Bool, (fbB b).data.toList = (if b then [116, 114, 117, 101] else [102, 97, 108, 115, 101]) := by decide +kernel
  exact ba_ext (by rw [key, ofL_toList])
theorem put_ev (a0 a1 : Int) (vars : List ByteArray) (rows : List (List S43)) (hr : rows.length ≤ 9223372036854775807) (tr : Bool) (er : Int) :
    Ev (fun k => result_Put.f k a0 a1 vars rows tr er) (if chk a0 a1 vars rows tr er = 0 then finL (bytesL a0.toNat a1 vars rows tr er.toNat) else (⟨#[]⟩, chk a0 a1 vars rows tr er)) := by
  unfold result_Put.f
  refine Ev.bind (chk_ev a0 a1 vars rows hr tr er) ?_
  by_cases h0 : chk a0 a1 vars rows tr er = 0
  · simp only [if_pos h0]
    obtain ⟨p1, p2, hk⟩ := chk_zero h0
    have he : 0 ≤ er ∧ er ≤ 9 := by omega
    have d1 := itB_dd a0 p1 p2
    have d2 := itB_dd er he.1 (by omega)
    have l1 := dd_len a0.toNat
    have l2 := dd_len er.toNat
    have l3 : (if tr = true then ([116, 114, 117, 101] : List UInt8) else [102, 97, 108, 115, 101]).length ≤ 5 := by split <;> simp
    have hs : smallP a0 er tr := by
      refine ⟨p1, by omega, by omega, by omega, ?_, ?_, ?_⟩
      · rw [d1, ofL_size]; omega
      · rw [d2, ofL_size]; omega
      rw [fbB_eq, ofL_size]; omega
    simp only [if_pos hs]
    have hp : put0 a0 = ofL (dd a0.toNat ++ [10]) := by
      unfold put0
      rw [d1, show (⟨#[10]⟩ : ByteArray) = ofL [10] from rfl, ofL_append]
    rw [hp]
    rcases hk with ⟨k1, k2, k3, k4, k5⟩ | ⟨k1, k2, k3, k4⟩ | ⟨k1, k2, k3, k4, k5, k6⟩
    · subst k1
      simp only [if_neg (show ¬ ((1 : Int) = 2) by decide), if_neg (show ¬ ((1 : Int) = 3) by decide)]
      obtain ⟨v1, v2, v3⟩ := rightR_all k4
      have vz : ∀ t ∈ vars, t.size ≤ 32 := by
        intro t ht
        have := (okName_len (v2 _ (List.mem_map.2 ⟨t, ht, rfl⟩))).1
        rwa [size_toList] at this
      have hg : vars.length < 8796093022208 ∧ rows.length < 8796093022208 ∧ ∀ t ∈ vars, 1 + t.size ≤ 9223372036854775807 := ⟨by omega, by omega, fun t ht => by have := vz t ht; omega⟩
      simp only [if_pos hg]
      have hm : (vars.map fun t => (⟨#[63]⟩ : ByteArray) ++ t) = ((B vars).map (63 :: ·)).map ofL := by
        unfold B
        rw [List.map_map, List.map_map]
        apply List.map_congr_left
        intro t _
        show (⟨#[63]⟩ : ByteArray) ++ t = ofL (63 :: t.data.toList)
        exact ba_ext (by rw [app_data, ofL_toList]; rfl)
      obtain ⟨c1, c2⟩ := cellsT_eq (vars.map fun t => (⟨#[63]⟩ : ByteArray) ++ t) (by rw [List.length_map]; exact v1) (by
        intro x hx
        obtain ⟨t, ht, rfl⟩ := List.mem_map.1 hx
        rw [ByteArray.size_append, show (⟨#[63]⟩ : ByteArray).size = 1 from rfl]
        have := vz t ht
        omega)
      rw [hm, B_ofL] at c1 c2
      rw [hm]
      simp only [c1, Option.bind_some]
      simp only [if_pos (show 2000 + (ofL (joinT ((B vars).map (63 :: ·)) ++ [10])).size ≤ 9223372036854775807 by rw [ofL_size, List.length_append]; simp; omega)]
      have h := rowsP_ev vars.length v1 rows (ofL (dd a0.toNat ++ [10]) ++ ((⟨#[114, 111, 119, 115, 10]⟩ : ByteArray) ++ ofL (joinT ((B vars).map (63 :: ·)) ++ [10]))) v3 (by
        rw [ByteArray.size_append, ByteArray.size_append, ofL_size, ofL_size, show (⟨#[114, 111, 119, 115, 10]⟩ : ByteArray).size = 5 from rfl, List.length_append, List.length_append]
        simp
        omega)
      have e : (ofL (dd a0.toNat ++ [10]) ++ ((⟨#[114, 111, 119, 115, 10]⟩ : ByteArray) ++ ofL (joinT ((B vars).map (63 :: ·)) ++ [10]))).data.toList ++ unl (rows.map rowL) = bytesL a0.toNat 1 vars rows tr er.toNat := by
        unfold bytesL linesOf
        rw [if_neg (by decide), if_neg (by decide), unl_cons, unl_cons, unl_cons, app_data, app_data, ofL_toList, ofL_toList, show (⟨#[114, 111, 119, 115, 10]⟩ : ByteArray).data.toList = [114, 111, 119, 115, 10] from rfl]
        simp
      rw [e] at h
      exact h
    · subst k1
      simp only [if_true]
      have e : (ofL (dd a0.toNat ++ [10]) ++ (fbB tr ++ (⟨#[10]⟩ : ByteArray))).data.toList = bytesL a0.toNat 2 vars rows tr er.toNat := by
        unfold bytesL linesOf
        rw [if_pos rfl, unl_cons, unl_cons, unl_nil, app_data, app_data, ofL_toList, fbB_eq, ofL_toList, show (⟨#[10]⟩ : ByteArray).data.toList = [10] from rfl]
        simp
      rw [finP_eq, e]
      exact Ev.now _
    subst k1
    simp only [if_neg (show ¬ ((3 : Int) = 2) by decide), if_true]
    have e : (ofL (dd a0.toNat ++ [10]) ++ (((⟨#[101, 114, 114, 111, 114, 32]⟩ : ByteArray) ++ itB er) ++ (⟨#[10]⟩ : ByteArray))).data.toList = bytesL a0.toNat 3 vars rows tr er.toNat := by
      unfold bytesL linesOf
      rw [if_neg (by decide), if_pos rfl, unl_cons, unl_cons, unl_nil, app_data, app_data, app_data, ofL_toList, d2, ofL_toList, show (⟨#[10]⟩ : ByteArray).data.toList = [10] from rfl, show (⟨#[101, 114, 114, 111, 114, 32]⟩ : ByteArray).data.toList = [101, 114, 114, 111, 114, 32] from rfl]
      simp
    rw [finP_eq, e]
    exact Ev.now _
  simp only [if_neg h0]
  exact Ev.now _
end Go.Proofs.YtgabadlneeffkaaGreatDoor.P

/- What result.Get comes to at the bytes of a right reply whose cells the program reads back: the reply. -/
namespace Go.Proofs.YtgabadlneeffkaaGreatDoor.P
open Go.RowKit Go.Lib Go.Proofs.YtgabadlneeffkaaGreatDoor Go.Proofs.YtgabadlneeffkaaGreatDoorW.PrintWords Go.Proofs.YtgabadlneeffkaaGreatDoorW.PrintLast
set_option linter.unusedVariables false
set_option linter.unusedSimpArgs false

theorem splitC_join : ∀ l : List (List UInt8), l ≠ [] → (∀ x ∈ l, (9 : UInt8) ∉ x) → splitC 9 (joinT l) = l
  | [], h, _ => absurd rfl h
  | [a], _, h => splitC_miss 9 a (h a (by simp))
  | a :: b :: r, _, h => by
    rw [joinT_cons, splitC_hit 9 a _ (h a (by simp)), splitC_join (b :: r) (by simp) (fun x hx => h x (List.mem_cons_of_mem _ hx))]
theorem splitC_unl : ∀ l : List (List UInt8), (∀ x ∈ l, (10 : UInt8) ∉ x) → splitC 10 (unl l) = l ++ [[]]
  | [], _ => rfl
  | a :: r, h => by
    rw [unl_cons, splitC_hit 10 a _ (h a (by simp)), splitC_unl r (fun x hx => h x (List.mem_cons_of_mem _ hx))]
    rfl
theorem split_eq (l : List UInt8) (c : UInt8) (h : l.length < 4294967281) : strings_Split.f (ofL l) (ofL [c]) = some ((splitC c l).map ofL) := by
  unfold strings_Split.f
  rw [if_pos ⟨by rw [ofL_size]; exact h, by rw [ofL_size]; simp⟩, splitB_eq, ofL_toList]
/-! ### what holds neither a tab nor a line feed -/
def clean (l : List UInt8) : Prop := (9 : UInt8) ∉ l ∧ (10 : UInt8) ∉ l
theorem clean_all {p : UInt8 → Bool} {l : List UInt8} (h : l.all p = true) (h9 : p 9 = false) (h10 : p 10 = false) : clean l := ⟨all_not_mem h h9, all_not_mem h h10⟩
theorem clean_nil : clean [] := ⟨by simp, by simp⟩
theorem clean_cons {a : UInt8} {l : List UInt8} (h9 : a ≠ 9) (h10 : a ≠ 10) (h : clean l) : clean (a :: l) := ⟨by simp only [List.mem_cons, not_or]; exact ⟨Ne.symm h9, h.1⟩, by simp only [List.mem_cons, not_or]; exact ⟨Ne.symm h10, h.2⟩⟩
theorem clean_app {a b : List UInt8} (h : clean a) (k : clean b) : clean (a ++ b) := ⟨by simp only [List.mem_append, not_or]; exact ⟨h.1, k.1⟩, by simp only [List.mem_append, not_or]; exact ⟨h.2, k.2⟩⟩
theorem clean_iri {l : List UInt8} (h : okIri l = true) : clean l := clean_all (okIri_all h) (by decide) (by decide)
theorem clean_name {l : List UInt8} (h : okName l = true) : clean l := by
  rw [okName_all] at h
  simp only [Bool.and_eq_true] at h
  exact clean_all h.1.2 (by decide) (by decide)
theorem clean_lang {l : List UInt8} (h : okLang l = true) : clean l := clean_all (okLang_all h) (by decide) (by decide)
theorem clean_escB (b : UInt8) : clean (escB b) := by
  refine forall_byte (P := fun b => clean (escB b)) ?_ b
  unfold clean
  decide +kernel
theorem clean_esc (l : List UInt8) : clean (esc l) := by
  induction l with
  | nil => exact clean_nil
  | cons b l ih => exact clean_app (clean_escB b) ih
theorem clean_text {t : Tm} (h : okTm t = true) : clean (ttext t) := by
  by_cases hk : t.k = 2
  · obtain ⟨h1, h2, h3⟩ := okTm_two h hk
    have e : ttext t = 34 :: (esc t.x ++ 34 :: tail2 t) := by unfold ttext; rw [if_neg (by omega), if_neg (by omega), if_neg (by omega), if_pos hk]
    rw [e]
    refine clean_cons (by decide) (by decide) (clean_app (clean_esc _) (clean_cons (by decide) (by decide) ?_))
    unfold tail2
    refine clean_app ?_ ?_
    · split
      · exact clean_nil
      rename_i hne
      have hi : okIri t.ty = true := by
        rcases h2 with h2 | h2
        · rw [h2] at hne; exact absurd rfl hne
        exact h2.1
      exact clean_cons (by decide) (by decide) (clean_cons (by decide) (by decide) (clean_cons (by decide) (by decide) (clean_app (clean_iri hi) (clean_cons (by decide) (by decide) clean_nil))))
    split
    · exact clean_nil
    rename_i hne
    have hi : okLang t.la = true := by
      rcases h3 with h3 | h3
      · rw [h3] at hne; exact absurd rfl hne
      exact h3
    exact clean_cons (by decide) (by decide) (clean_lang hi)
  obtain ⟨_, _, _, _, h1, h34, hc⟩ := okTm_other h hk
  unfold ttext
  split
  · rename_i k1
    exact clean_cons (by decide) (by decide) (clean_app (clean_iri (h1 k1)) (clean_cons (by decide) (by decide) clean_nil))
  split
  · rename_i k3
    exact clean_cons (by decide) (by decide) (clean_cons (by decide) (by decide) (clean_name (h34 (.inl k3))))
  split
  · rename_i k4
    exact clean_cons (by decide) (by decide) (clean_name (h34 (.inr k4)))
  exact clean_nil
theorem noten_join : ∀ l : List (List UInt8), (∀ x ∈ l, clean x) → (10 : UInt8) ∉ joinT l
  | [], _ => by simp [joinT]
  | [a], h => (h a (by simp)).2
  | a :: b :: r, h => by
    rw [joinT_cons]
    simp only [List.mem_append, List.mem_cons, not_or]
    exact ⟨(h a (by simp)).2, by decide, noten_join (b :: r) (fun x hx => h x (List.mem_cons_of_mem _ hx))⟩
theorem dd_clean (n : Nat) (h : n < 4096) : clean (dd n) := by
  have key : ∀ a b : Fin 64, (dd (64 * a.val + b.val)).all (fun c => c != 9 && c != 10) = true := by decide +kernel
  have := key ⟨n / 64, by omega⟩ ⟨n % 64, by omega⟩
  simp only at this
  rw [show 64 * (n / 64) + n % 64 = n by omega] at this
  exact clean_all this (by decide) (by decide)

theorem ext_ofL (s : ByteArray) (i j : Nat) : s.extract i j = ofL ((s.data.toList.drop i).take (j - i)) := by
  rw [← ext_toList, ofL_data]
theorem ext_end (s : ByteArray) (i : Nat) : s.extract i s.size = ofL (s.data.toList.drop i) := by
  rw [ext_ofL, List.take_of_length_le (by rw [List.length_drop, size_toList]; omega)]
/-- the program reads this cell's text back -/
def Rdb (t : S43) : Prop := Ev (fun k => term_Read.f k (ofL (ttext (T t)))) (t.f0, t.f1, t.f2, t.f3, 0)

/-! ### rows -/
theorem cells_ev (vars : List ByteArray) (Y : List ByteArray) (i : Nat) (hi : i < 9223372036854775807) (accR : List (List S43)) (hR : accR.length < 5864062014805) (row : List S43) (hrow : row.length ≤ 32) (hc : row.all cellOK = true) (hrd : ∀ t ∈ row, Rdb t)
    (v : List ByteArray × List (List S43) × Bool) (hn : Ev (fun k => result_rows.l1 k Y (Y.length : Int) ((i + 1 : Nat) : Int) vars (accR ++ [row])) v) :
    ∀ (r acc : List S43), row = acc ++ r →
    Ev (fun k => result_rows.l2 k acc Y (Y.length : Int) (i : Int) (row.map fun t => ofL (ttext (T t))) ((row.map fun t => ofL (ttext (T t))).length : Int) (acc.length : Int) vars accR) v := by
  intro r
  induction r with
  | nil =>
    intro acc hd
    rw [List.append_nil] at hd
    subst hd
    refine Ev.step (fun k => by rw [result_rows.l2]) ?_
    simp only [List.length_map, if_neg (show ¬ ((row.length : Int) < (row.length : Int)) by omega), if_pos hR, wrap_succ hi]
    exact hn
  | cons c r ih =>
    intro acc hd
    have hl : row.length = acc.length + r.length + 1 := by rw [hd]; simp; omega
    have hmem : c ∈ row := by rw [hd]; simp
    have hcc := cellOK_tm (List.all_eq_true.1 hc c hmem)
    have hg : rdOf ByteArray.empty (row.map fun t => ofL (ttext (T t))) (acc.length : Int) = ofL (ttext (T c)) := by
      unfold rdOf
      rw [Int.toNat_natCast, List.getD_eq_getElem?_getD, List.getElem?_map, hd, List.getElem?_append_right (Nat.le_refl _)]
      simp
    refine Ev.step (fun k => by rw [result_rows.l2]) ?_
    simp only [List.length_map, if_pos (show (acc.length : Int) < (row.length : Int) by omega), if_pos (show (0 : Int) ≤ (acc.length : Int) by omega), hg, wrap_succ (show acc.length < 9223372036854775807 by omega)]
    refine Ev.bind (hrd c hmem) ?_
    simp only [if_true, if_pos (show acc.length < 2513169434916 by omega)]
    have h := ih (acc ++ [c]) (by rw [List.append_assoc]; exact hd)
    simp only [List.length_map, List.length_append, List.length_singleton] at h
    exact h
theorem split_row (row : List S43) (n : Nat) (hl : row.length = n) (hn : n ≤ 32) (hc : row.all cellOK = true) : result_split.f (ofL (rowL row)) (n : Int) = some (row.map fun t => ofL (ttext (T t))) := by
  unfold result_split.f
  have hcl : ∀ x ∈ row.map (fun t => ttext (T t)), clean x := by
    intro x hx
    obtain ⟨t, ht, rfl⟩ := List.mem_map.1 hx
    exact clean_text (cellOK_tm (List.all_eq_true.1 hc t ht)).1
  have hlen : (rowL row).length < 4294967281 := by
    have := joinT_len 20000 (row.map fun t => ttext (T t)) (by
      intro x hx
      obtain ⟨t, ht, rfl⟩ := List.mem_map.1 hx
      exact ttext_len (cellOK_tm (List.all_eq_true.1 hc t ht)).1)
    rw [List.length_map] at this
    have h2 : row.length * (20000 + 1) ≤ 32 * 20001 := Nat.mul_le_mul_right _ (by omega)
    exact Nat.lt_of_le_of_lt (Nat.le_trans this h2) (by decide)
  by_cases h0 : n = 0
  · have : row = [] := List.length_eq_zero_iff.1 (by omega)
    subst this
    simp only [if_pos (show (n : Int) = 0 by omega), tl, ofL_toList]
    rw [if_pos (show rowL [] = ([] : List UInt8) from rfl)]
    rfl
  simp only [if_neg (show ¬ ((n : Int) = 0) by omega)]
  rw [show (⟨#[9]⟩ : ByteArray) = ofL [9] from rfl, split_eq _ _ hlen]
  unfold rowL
  rw [splitC_join _ (by
    intro e
    have := congrArg List.length e
    rw [List.length_map] at this
    simp at this
    rw [this] at hl
    simp at hl
    omega) (fun x hx => (hcl x hx).1), Option.bind_some, List.map_map]
  rfl
theorem lines_ev (vars : List ByteArray) (hv : vars.length ≤ 32) (rows : List (List S43)) (hrows : rows.length ≤ 1024) (hok : rows.all (rowOK vars.length) = true) (hrd : ∀ row ∈ rows, ∀ t ∈ row, Rdb t) : ∀ (r acc : List (List S43)), rows = acc ++ r →
    Ev (fun k => result_rows.l1 k (rows.map fun row => ofL (rowL row)) ((rows.map fun row => ofL (rowL row)).length : Int) (acc.length : Int) vars acc) (vars, rows, true) := by
  intro r
  induction r with
  | nil =>
    intro acc hd
    rw [List.append_nil] at hd
    subst hd
    refine Ev.step (fun k => by rw [result_rows.l1]) ?_
    simp only [List.length_map, if_neg (show ¬ ((rows.length : Int) < (rows.length : Int)) by omega)]
    exact Ev.now _
  | cons row r ih =>
    intro acc hd
    have hl : rows.length = acc.length + r.length + 1 := by rw [hd]; simp; omega
    have hmem : row ∈ rows := by rw [hd]; simp
    have hro := List.all_eq_true.1 hok row hmem
    unfold rowOK at hro
    rw [Bool.and_eq_true, beq_iff_eq] at hro
    have hg : rdOf ByteArray.empty (rows.map fun row => ofL (rowL row)) (acc.length : Int) = ofL (rowL row) := by
      unfold rdOf
      rw [Int.toNat_natCast, List.getD_eq_getElem?_getD, List.getElem?_map, hd, List.getElem?_append_right (Nat.le_refl _)]
      simp
    refine Ev.step (fun k => by rw [result_rows.l1]) ?_
    simp only [List.length_map, if_pos (show (acc.length : Int) < (rows.length : Int) by omega), if_pos (show (0 : Int) ≤ (acc.length : Int) by omega), hg, split_row row vars.length hro.1 hv hro.2, Option.bind_some]
    have h := ih (acc ++ [row]) (by rw [List.append_assoc]; exact hd)
    simp only [List.length_append, List.length_singleton] at h
    have := cells_ev vars (rows.map fun row => ofL (rowL row)) acc.length (by omega) acc (by omega) row (by omega) hro.2 (hrd row hmem) _ h row [] rfl
    simp only [List.length_map] at this
    exact this
theorem names_ev (X : List ByteArray) (vars : List ByteArray) (hv : vars.length ≤ 32) (v : List ByteArray × List (List S43) × Bool) (hn : Ev (fun k => result_rows.j1 k X vars) v) : ∀ (r acc : List ByteArray), vars = acc ++ r →
    Ev (fun k => result_rows.l0 k X (((B vars).map (63 :: ·)).map ofL) ((((B vars).map (63 :: ·)).map ofL).length : Int) (acc.length : Int) acc) v := by
  intro r
  induction r with
  | nil =>
    intro acc hd
    rw [List.append_nil] at hd
    subst hd
    refine Ev.step (fun k => by rw [result_rows.l0]) ?_
    simp only [List.length_map, B_len, if_neg (show ¬ ((vars.length : Int) < (vars.length : Int)) by omega)]
    exact hn
  | cons c r ih =>
    intro acc hd
    have hl : vars.length = acc.length + r.length + 1 := by rw [hd]; simp; omega
    have hg : rdOf ByteArray.empty (((B vars).map (63 :: ·)).map ofL) (acc.length : Int) = ofL (63 :: c.data.toList) := by
      unfold rdOf B
      rw [Int.toNat_natCast, List.getD_eq_getElem?_getD, List.getElem?_map, List.getElem?_map, List.getElem?_map, hd, List.getElem?_append_right (Nat.le_refl _)]
      simp
    refine Ev.step (fun k => by rw [result_rows.l0]) ?_
    have hp : strings_HasPrefix.f (ofL (63 :: c.data.toList)) (⟨#[63]⟩ : ByteArray) = some true := by
      unfold strings_HasPrefix.f
      rw [ofL_toList]
      simp [Lib.hasPrefix, List.isPrefixOf]
    have he : (ofL (63 :: c.data.toList)).extract 1 (ofL (63 :: c.data.toList)).size = c := by
      rw [ext_end, ofL_toList, List.drop_succ_cons, List.drop_zero, ofL_data]
    simp only [List.length_map, B_len, if_pos (show (acc.length : Int) < (vars.length : Int) by omega), if_pos (show (0 : Int) ≤ (acc.length : Int) by omega), hg, hp, Option.bind_some, if_true, he, if_pos (show acc.length < 8796093022208 by omega), wrap_succ (show acc.length < 9223372036854775807 by omega)]
    simp only [if_pos (show (1 : Int) ≤ ((ofL (63 :: c.data.toList)).size : Int) by rw [ofL_size, List.length_cons]; omega)]
    have h := ih (acc ++ [c]) (by rw [List.append_assoc]; exact hd)
    simp only [List.length_map, B_len, List.length_append, List.length_singleton] at h
    exact h
theorem rows_ev (vars : List ByteArray) (hv : vars.length ≤ 32) (hnm : ∀ x ∈ B vars, okName x = true) (rows : List (List S43)) (hrows : rows.length ≤ 1024) (hok : rows.all (rowOK vars.length) = true) (hrd : ∀ row ∈ rows, ∀ t ∈ row, Rdb t) :
    Ev (fun k => result_rows.f k ((joinT ((B vars).map (63 :: ·)) :: rows.map rowL).map ofL)) (vars, rows, true) := by
  unfold result_rows.f
  have hx : (joinT ((B vars).map (63 :: ·)) :: rows.map rowL).map ofL = ofL (joinT ((B vars).map (63 :: ·))) :: rows.map fun row => ofL (rowL row) := by
    rw [List.map_cons, List.map_map]; rfl
  rw [hx]
  have h0 : rdOf ByteArray.empty (ofL (joinT ((B vars).map (63 :: ·))) :: rows.map fun row => ofL (rowL row)) 0 = ofL (joinT ((B vars).map (63 :: ·))) := rfl
  have hz : (0 : Int) < ((ofL (joinT ((B vars).map (63 :: ·))) :: rows.map fun row => ofL (rowL row)).length : Int) := by rw [List.length_cons]; omega
  have hj : Ev (fun k => result_rows.j1 k (ofL (joinT ((B vars).map (63 :: ·))) :: rows.map fun row => ofL (rowL row)) vars) (vars, rows, true) := by
    refine Ev.step (fun k => by rw [result_rows.j1]) ?_
    simp only [if_pos (show (1 : Int) ≤ ((ofL (joinT ((B vars).map (63 :: ·))) :: rows.map fun row => ofL (rowL row)).length : Int) by omega), List.drop_succ_cons, List.drop_zero, Option.bind_some]
    exact lines_ev vars hv rows hrows hok hrd rows [] rfl
  simp only [if_neg (show ¬ (((ofL (joinT ((B vars).map (63 :: ·))) :: rows.map fun row => ofL (rowL row)).length : Int) = 0) by omega), if_pos hz, h0, tl, ofL_toList]
  by_cases hvz : vars = []
  · subst hvz
    simp only [show joinT ((B []).map (63 :: ·)) = [] from rfl, if_true]
    exact hj
  have hne : (B vars).map (63 :: ·) ≠ [] := by
    intro e
    have := congrArg List.length e
    rw [List.length_map, B_len] at this
    exact hvz (List.length_eq_zero_iff.1 this)
  have hcl : ∀ x ∈ (B vars).map (63 :: ·), clean x := by
    intro x hx
    obtain ⟨y, hy, rfl⟩ := List.mem_map.1 hx
    exact clean_cons (by decide) (by decide) (clean_name (hnm y hy))
  have hjn : joinT ((B vars).map (63 :: ·)) ≠ [] := by
    cases hb : (B vars).map (63 :: ·) with
    | nil => exact absurd hb hne
    | cons a r =>
      have ha : a ≠ [] := by
        have : a ∈ (B vars).map (63 :: ·) := by rw [hb]; simp
        obtain ⟨y, _, rfl⟩ := List.mem_map.1 this
        simp
      cases r with
      | nil => exact ha
      | cons b r => rw [joinT_cons]; simp
  have hlen : (joinT ((B vars).map (63 :: ·))).length < 4294967281 := by
    have := joinT_len 40 ((B vars).map (63 :: ·)) (by
      intro x hx
      obtain ⟨y, hy, rfl⟩ := List.mem_map.1 hx
      have := (okName_len (hnm y hy)).1
      simp
      omega)
    rw [List.length_map, B_len] at this
    omega
  simp only [if_neg hjn]
  rw [show (⟨#[9]⟩ : ByteArray) = ofL [9] from rfl, split_eq _ _ hlen, splitC_join _ hne (fun x hx => (hcl x hx).1)]
  simp only [Option.bind_some]
  exact names_ev _ vars hv _ hj vars [] rfl

/-! ### Get -/
theorem atoi_of (n : Nat) (h : n < 4096) : atoiV (ofL (dd n)) = (n : Int) ∧ atoiOk (ofL (dd n)) = true := by
  unfold atoiV atoiOk
  rw [ofL_toList, atoi_dd n h]
  exact ⟨rfl, rfl⟩
theorem lines_clean {a0 a1 : Int} {vars : List ByteArray} {rows : List (List S43)} {tr : Bool} {er : Int} (h : chk a0 a1 vars rows tr er = 0) : ∀ x ∈ linesOf a0.toNat a1 vars rows tr er.toNat, (10 : UInt8) ∉ x := by
  obtain ⟨p1, p2, hk⟩ := chk_zero h
  intro x hx
  unfold linesOf at hx
  rcases List.mem_cons.1 hx with rfl | hx
  · exact (dd_clean _ (by omega)).2
  rcases hk with ⟨k1, k2, k3, k4, k5⟩ | ⟨k1, k2, k3, k4⟩ | ⟨k1, k2, k3, k4, k5, k6⟩
  · rw [if_neg (by omega), if_neg (by omega)] at hx
    obtain ⟨v1, v2, v3⟩ := rightR_all k4
    rcases List.mem_cons.1 hx with rfl | hx
    · decide
    rcases List.mem_cons.1 hx with rfl | hx
    · refine noten_join _ ?_
      intro x hx
      obtain ⟨y, hy, rfl⟩ := List.mem_map.1 hx
      exact clean_cons (by decide) (by decide) (clean_name (v2 y hy))
    obtain ⟨row, hrow, rfl⟩ := List.mem_map.1 hx
    have hro := List.all_eq_true.1 v3 row hrow
    unfold rowOK at hro
    rw [Bool.and_eq_true] at hro
    refine noten_join _ ?_
    intro x hx
    obtain ⟨t, ht, rfl⟩ := List.mem_map.1 hx
    exact clean_text (cellOK_tm (List.all_eq_true.1 hro.2 t ht)).1
  · rw [if_pos k1] at hx
    rcases List.mem_cons.1 hx with rfl | hx
    · cases tr <;> decide
    cases hx
  rw [if_neg (by omega), if_pos k1] at hx
  rcases List.mem_cons.1 hx with rfl | hx
  · have := (dd_clean er.toNat (by omega)).2
    simp only [List.mem_append, not_or]
    exact ⟨by decide, this⟩
  cases hx
theorem get_ev {a0 a1 : Int} {vars : List ByteArray} {rows : List (List S43)} {tr : Bool} {er : Int} (h : chk a0 a1 vars rows tr er = 0) (hl : (bytesL a0.toNat a1 vars rows tr er.toNat).length ≤ 65536) (hrd : ∀ row ∈ rows, ∀ t ∈ row, Rdb t) :
    Ev (fun k => result_Get.f k (ofL (bytesL a0.toNat a1 vars rows tr er.toNat))) (a0, a1, vars, rows, tr, er, 0) := by
  obtain ⟨p1, p2, hk⟩ := chk_zero h
  have hrl : rows.length ≤ 9223372036854775807 := by
    rcases hk with hk | hk | hk
    · omega
    · rw [hk.2.2.1]; simp
    rw [hk.2.2.1]; simp
  have hput := put_ev a0 a1 vars rows hrl tr er
  rw [if_pos h, finL, if_neg (by omega)] at hput
  have hsp := split_eq (bytesL a0.toNat a1 vars rows tr er.toNat) 10 (by omega)
  rw [show splitC 10 (bytesL a0.toNat a1 vars rows tr er.toNat) = linesOf a0.toNat a1 vars rows tr er.toNat ++ [[]] from splitC_unl _ (lines_clean h), show ofL [10] = (⟨#[10]⟩ : ByteArray) from rfl] at hsp
  have hll : 2 ≤ (linesOf a0.toNat a1 vars rows tr er.toNat).length ∧ (linesOf a0.toNat a1 vars rows tr er.toNat).length ≤ 4611686018427387900 := by
    unfold linesOf
    split
    · simp
    split
    · simp
    simp only [List.length_cons, List.length_map]; omega
  unfold result_Get.f
  rw [ofL_size]
  simp only [if_neg (show ¬ (((bytesL a0.toNat a1 vars rows tr er.toNat).length : Int) > 65536) by omega), hsp, Option.bind_some]
  have e1 : ((linesOf a0.toNat a1 vars rows tr er.toNat ++ [[]]).map ofL).length = (linesOf a0.toNat a1 vars rows tr er.toNat).length + 1 := by simp
  have e2 : rdOf ByteArray.empty ((linesOf a0.toNat a1 vars rows tr er.toNat ++ [[]]).map ofL) ((((linesOf a0.toNat a1 vars rows tr er.toNat).length + 1 : Nat) : Int) - 1) = ofL [] := by
    unfold rdOf
    rw [show ((((linesOf a0.toNat a1 vars rows tr er.toNat).length + 1 : Nat) : Int) - 1).toNat = (linesOf a0.toNat a1 vars rows tr er.toNat).length by omega, List.getD_eq_getElem?_getD, List.getElem?_map, List.getElem?_append_right (Nat.le_refl _)]
    simp
  have e3 : ((linesOf a0.toNat a1 vars rows tr er.toNat ++ [[]]).map ofL).take ((linesOf a0.toNat a1 vars rows tr er.toNat).length + 1 - 1) = (linesOf a0.toNat a1 vars rows tr er.toNat).map ofL := by
    rw [List.map_append, Nat.add_sub_cancel, List.take_left' (by rw [List.length_map])]
  rw [e1]
  simp only [if_pos (show (linesOf a0.toNat a1 vars rows tr er.toNat).length + 1 < 4611686018427387904 by omega), if_neg (show ¬ ((((linesOf a0.toNat a1 vars rows tr er.toNat).length + 1 : Nat) : Int) < 3) by omega), e2, e3, tl, ofL_toList, if_true]
  unfold getRest
  have r0 : rdOf ByteArray.empty ((linesOf a0.toNat a1 vars rows tr er.toNat).map ofL) 0 = ofL (dd a0.toNat) := rfl
  obtain ⟨at1, at2⟩ := atoi_of a0.toNat (by omega)
  have dl := dd_len a0.toNat
  rw [r0, at1, at2]
  simp only [if_pos (show (ofL (dd a0.toNat)).size ≤ 281474976710656 by rw [ofL_size]; omega)]
  rw [show ((a0.toNat : Nat) : Int) = a0 by omega]
  have fin : ∀ (w : Int × List ByteArray × List (List S43) × Bool × Int × Bool), w = (a1, vars, rows, tr, er, true) →
      Ev (fun k => (result_Put.f k a0 w.1 w.2.1 w.2.2.1 w.2.2.2.1 w.2.2.2.2.1).bind fun y => if w.2.2.2.2.2 = true ∧ y.2 = 0 ∧ y.1.toList = (ofL (bytesL a0.toNat a1 vars rows tr er.toNat)).toList then some (a0, w.1, w.2.1, w.2.2.1, w.2.2.2.1, w.2.2.2.2.1, (0 : Int)) else some (0, 0, [], [], false, 0, 2)) (a0, a1, vars, rows, tr, er, 0) := by
    rintro w rfl
    refine Ev.bind hput ?_
    exact Ev.congr (fun k => if_pos ⟨rfl, rfl, rfl⟩) (Ev.now _)
  rcases hk with ⟨k1, k2, k3, k4, k5⟩ | ⟨k1, k2, k3, k4⟩ | ⟨k1, k2, k3, k4, k5, k6⟩
  · obtain ⟨v1, v2, v3⟩ := rightR_all k4
    have el : linesOf a0.toNat a1 vars rows tr er.toNat = dd a0.toNat :: [114, 111, 119, 115] :: (joinT ((B vars).map (63 :: ·)) :: rows.map rowL) := by
      unfold linesOf; rw [if_neg (by omega), if_neg (by omega)]
    refine Ev.bind (a := (a1, vars, rows, tr, er, true)) ?_ (fin _ rfl)
    rw [el]
    unfold getMid
    have r1 : rdOf ByteArray.empty ((dd a0.toNat :: [114, 111, 119, 115] :: (joinT ((B vars).map (63 :: ·)) :: rows.map rowL)).map ofL) 1 = ofL [114, 111, 119, 115] := rfl
    have r2 : ((dd a0.toNat :: [114, 111, 119, 115] :: (joinT ((B vars).map (63 :: ·)) :: rows.map rowL)).map ofL).drop 2 = (joinT ((B vars).map (63 :: ·)) :: rows.map rowL).map ofL := rfl
    rw [r1, r2]
    simp only [tl, ofL_toList, if_true]
    refine Ev.bind (rows_ev vars v1 v2 rows k5 v3 hrd) ?_
    simp only [Bool.and_self]
    rw [k1, k2, k3]
    exact Ev.now _
  · have el : linesOf a0.toNat a1 vars rows tr er.toNat = [dd a0.toNat, if tr then [116, 114, 117, 101] else [102, 97, 108, 115, 101]] := by
      unfold linesOf; rw [if_pos k1]
    refine Ev.bind (a := (a1, vars, rows, tr, er, true)) ?_ (fin _ rfl)
    rw [el]
    unfold getMid
    have r1 : rdOf ByteArray.empty ([dd a0.toNat, if tr then [116, 114, 117, 101] else [102, 97, 108, 115, 101]].map ofL) 1 = ofL (if tr then [116, 114, 117, 101] else [102, 97, 108, 115, 101]) := rfl
    rw [r1]
    simp only [tl, ofL_toList]
    subst k1 k2 k3 k4
    cases tr with
    | true =>
      simp only [if_true]
      exact Ev.congr (fun k => (if_neg (by decide)).trans (if_neg (by decide))) (Ev.now _)
    | false =>
      simp only [Bool.false_eq_true, if_false]
      exact Ev.congr (fun k => (if_neg (by decide)).trans (if_neg (by decide))) (Ev.now _)
  have el : linesOf a0.toNat a1 vars rows tr er.toNat = [dd a0.toNat, [101, 114, 114, 111, 114, 32] ++ dd er.toNat] := by
    unfold linesOf; rw [if_neg (by omega), if_pos k1]
  refine Ev.bind (a := (a1, vars, rows, tr, er, true)) ?_ (fin _ rfl)
  rw [el]
  unfold getMid
  have r1 : rdOf ByteArray.empty ([dd a0.toNat, [101, 114, 114, 111, 114, 32] ++ dd er.toNat].map ofL) 1 = ofL ([101, 114, 114, 111, 114, 32] ++ dd er.toNat) := rfl
  rw [r1]
  simp only [tl, ofL_toList]
  obtain ⟨bt1, bt2⟩ := atoi_of er.toNat (by omega)
  have hp : Lib.hasPrefix ([101, 114, 114, 111, 114, 32] ++ dd er.toNat) [101, 114, 114, 111, 114, 32] = true := by
    simp [Lib.hasPrefix, List.isPrefixOf]
  have hx : (ofL ([101, 114, 114, 111, 114, 32] ++ dd er.toNat)).extract 6 (ofL ([101, 114, 114, 111, 114, 32] ++ dd er.toNat)).size = ofL (dd er.toNat) := by
    rw [ext_end, ofL_toList]; rfl
  have dl2 := dd_len er.toNat
  simp only [hx, bt1, bt2, hp, if_true]
  rw [show ((er.toNat : Nat) : Int) = er by omega]
  subst k1 k2 k3 k4
  exact Ev.congr (fun k => (if_neg (by simp)).trans (if_pos ⟨by rw [ofL_size]; simp, by rw [ofL_size]; omega⟩)) (Ev.now _)
/-- the program answers -/
theorem awake_ev : Ev (fun k => legationlaw17_awake.f k) true := by
  have hc : chk 7 1 [ofL [120], ofL [121]] [[⟨1, ofL [97], ofL [], ofL []⟩, ⟨0, ofL [], ofL [], ofL []⟩]] false 0 = 0 := by decide +kernel
  have hb : bytesL (7 : Int).toNat 1 [ofL [120], ofL [121]] [[⟨1, ofL [97], ofL [], ofL []⟩, ⟨0, ofL [], ofL [], ofL []⟩]] false (0 : Int).toNat = [55, 10, 114, 111, 119, 115, 10, 63, 120, 9, 63, 121, 10, 60, 97, 62, 9, 10] := by decide +kernel
  have key : ∀ (t : S43), (term_Prefix.f 0 (ofL (ttext (T t)))).map (fun r => (r.1, r.2.1.data.toList, r.2.2.1.data.toList, r.2.2.2.1.data.toList, r.2.2.2.2)) = some (t.f0, t.f1.data.toList, t.f2.data.toList, t.f3.data.toList, ((ttext (T t)).length : Int)) → Rdb t := by
    intro t ht
    obtain ⟨⟨r1, r2, r3, r4, r5⟩, e1, e2⟩ := Option.map_eq_some_iff.1 ht
    simp only [Prod.mk.injEq] at e2
    obtain ⟨rfl, e2, e3, e4, rfl⟩ := e2
    have e1' : ∀ k, term_Prefix.f k (ofL (ttext (T t))) = some (t.f0, t.f1, t.f2, t.f3, ((ttext (T t)).length : Int)) := by
      intro k
      rw [show term_Prefix.f k (ofL (ttext (T t))) = term_Prefix.f 0 (ofL (ttext (T t))) from rfl, e1, ba_ext e2, ba_ext e3, ba_ext e4]
    unfold Rdb term_Read.f
    refine Ev.congr (f := fun _ => some (t.f0, t.f1, t.f2, t.f3, 0)) (fun k => ?_) (Ev.now _)
    simp only [e1', Option.bind_some, ofL_size, if_true]
  have h := get_ev hc (by rw [hb]; decide) (by
    intro row hrow t ht
    rw [List.mem_singleton] at hrow
    subst hrow
    rcases List.mem_cons.1 ht with rfl | ht
    · exact key _ (by decide +kernel)
    rw [List.mem_singleton] at ht
    subst ht
    exact key _ (by decide +kernel))
  rw [hb] at h
  unfold legationlaw17_awake.f
  refine Ev.bind h ?_
  refine Ev.congr (f := fun _ => some true) (fun k => ?_) (Ev.now _)
  simp only [tl]
  rfl
end Go.Proofs.YtgabadlneeffkaaGreatDoor.P

/- What the reference's Put comes to: the bytes of a reply; and Copy: the same lists. -/
namespace Go.Proofs.YtgabadlneeffkaaGreatDoor.P
open Go.RowKit Go.Lib Go.Proofs.YtgabadlneeffkaaGreatDoor Go.Proofs.YtgabadlneeffkaaGreatDoorW.PrintWords Go.Proofs.YtgabadlneeffkaaGreatDoorW.PrintLast
set_option linter.unusedVariables false
set_option linter.unusedSimpArgs false

theorem digits_key (n : Nat) (h : n < 4096) : (legationref02_Digits.f 8 (n : Int) 1).map (·.data.toList) = some (dd n) := by
  have key : ∀ a b : Fin 64, ((legationref02_Digits.f 8 ((64 * a.val + b.val : Nat) : Int) 1).map (·.data.toList)) = some (dd (64 * a.val + b.val)) := by decide +kernel
  have := key ⟨n / 64, by omega⟩ ⟨n % 64, by omega⟩
  simp only at this
  rwa [show 64 * (n / 64) + n % 64 = n by omega] at this
theorem digits_ev (n : Int) (h0 : 0 ≤ n) (h : n < 4096) : Ev (fun k => legationref02_Digits.f k n 1) (ofL (dd n.toNat)) := by
  have := digits_key n.toNat (by omega)
  rw [show ((n.toNat : Nat) : Int) = n by omega] at this
  obtain ⟨s, hs, he⟩ := Option.map_eq_some_iff.1 this
  refine Ev.of (k := 8) (fun k => legationref02_Digits.mono _ _ k) ?_
  rw [hs, ← he, ofL_data]
theorem rescaped_loop (s : ByteArray) (hs : s.size ≤ 4096) : ∀ (r : List UInt8) (i : Nat) (acc : List UInt8), s.data.toList.drop i = r → i ≤ s.size → acc.length ≤ 2 * i →
    Ev (fun k => legationref01_escaped.l0 k s (ofL acc) (i : Int)) (ofL (acc ++ esc r)) := by
  intro r
  induction r with
  | nil =>
    intro i acc hd hi ha
    have := size_of_drop hd
    refine Ev.step (fun k => by rw [legationref01_escaped.l0]) ?_
    simp only [if_neg (show ¬ ((i : Int) < (s.size : Int)) by omega)]
    rw [show esc [] = [] from rfl, List.append_nil]
    exact Ev.now _
  | cons c r ih =>
    intro i acc hd hi ha
    obtain ⟨hb, his, hr⟩ := bt_of_drop hd
    have two : ∀ d : List UInt8, escB c = d → d.length ≤ 2 → Ev (fun k => legationref01_escaped.l0 k s (ofL acc ++ ofL d) ((i + 1 : Nat) : Int)) (ofL (acc ++ esc (c :: r))) := by
      intro d hd2 hl
      have h := ih (i + 1) (acc ++ d) hr (by omega) (by simp; omega)
      rw [show esc (c :: r) = escB c ++ esc r from rfl, hd2, ← List.append_assoc acc, ofL_append]
      exact h
    refine Ev.step (fun k => by rw [legationref01_escaped.l0]) ?_
    simp only [if_pos (show (i : Int) < (s.size : Int) by omega), if_pos (show (0 : Int) ≤ (i : Int) by omega), hb, wrap_succ (show i < 9223372036854775807 by omega)]
    have hz : (ofL acc).size + 2 ≤ 9223372036854775807 := by rw [ofL_size]; omega
    by_cases h1 : c.toNat = 34
    · simp only [if_pos (show (c.toNat : Int) = 34 by omega), if_pos hz]
      exact two [92, 34] (by unfold escB; rw [if_pos h1]) (by simp)
    simp only [if_neg (show ¬ ((c.toNat : Int) = 34) by omega)]
    by_cases h2 : c.toNat = 92
    · simp only [if_pos (show (c.toNat : Int) = 92 by omega), if_pos hz]
      exact two [92, 92] (by unfold escB; rw [if_neg h1, if_pos h2]) (by simp)
    simp only [if_neg (show ¬ ((c.toNat : Int) = 92) by omega)]
    by_cases h3 : c.toNat = 10
    · simp only [if_pos (show (c.toNat : Int) = 10 by omega), if_pos hz]
      exact two [92, 110] (by unfold escB; rw [if_neg h1, if_neg h2, if_pos h3]) (by simp)
    simp only [if_neg (show ¬ ((c.toNat : Int) = 10) by omega)]
    by_cases h4 : c.toNat = 9
    · simp only [if_pos (show (c.toNat : Int) = 9 by omega), if_pos hz]
      exact two [92, 116] (by unfold escB; rw [if_neg h1, if_neg h2, if_neg h3, if_pos h4]) (by simp)
    simp only [if_neg (show ¬ ((c.toNat : Int) = 9) by omega)]
    have ee : s.extract i (i + 1) = ofL [c] := by
      refine ba_ext ?_
      rw [ByteArray.data_extract, Array.toList_extract, List.extract_eq_take_drop, hd, Nat.add_sub_cancel_left]
      rfl
    simp only [if_pos (show (i : Int) ≤ ((i + 1 : Nat) : Int) by omega), if_pos (show ((i + 1 : Nat) : Int) ≤ (s.size : Int) by omega), Int.toNat_natCast, ee, if_pos (show (ofL acc).size + (ofL [c]).size ≤ 9223372036854775807 by rw [ofL_size, ofL_size]; simp; omega)]
    exact two [c] (by unfold escB; rw [if_neg h1, if_neg h2, if_neg h3, if_neg h4]) (by simp)
theorem rescaped_ev (s : ByteArray) (hs : s.size ≤ 4096) : Ev (fun k => legationref01_escaped.f k s) (ofL (esc s.data.toList)) := by
  unfold legationref01_escaped.f
  exact rescaped_loop s hs _ 0 [] rfl (by omega) (by simp)
theorem rtext_ev (k0 : Int) (a b c : ByteArray) (h : okTm (TT k0 a b c) = true) : Ev (fun k => legationref01_Text.f k k0 a b c) (ofL (ttext (TT k0 a b c))) := by
  unfold legationref01_Text.f
  by_cases k2 : k0 = 2
  · subst k2
    obtain ⟨h1, h2, h3⟩ := okTm_two h rfl
    have l2 := okText_len h1
    rw [show (TT 2 a b c).x = a.data.toList from rfl, size_toList] at l2
    simp only [tl, if_true, if_neg (show ¬ ((2 : Int) = 1) by decide), if_neg (show ¬ ((2 : Int) = 3) by decide), if_neg (show ¬ ((2 : Int) = 4) by decide)]
    refine Ev.bind (rescaped_ev a l2) ?_
    have lq := esc_len a.data.toList
    rw [size_toList] at lq
    have z0 : (ofL (esc a.data.toList)).size ≤ 8192 := by rw [ofL_size]; omega
    have z1 : ((⟨#[34]⟩ : ByteArray) ++ ofL (esc a.data.toList)).size = 1 + (ofL (esc a.data.toList)).size := by rw [ByteArray.size_append]; rfl
    have z2 : (((⟨#[34]⟩ : ByteArray) ++ ofL (esc a.data.toList)) ++ (⟨#[34]⟩ : ByteArray)).size = 1 + (ofL (esc a.data.toList)).size + 1 := by rw [ByteArray.size_append, z1]; rfl
    rw [if_pos (by omega), if_pos (by rw [z1]; omega)]
    have e : ttext (TT 2 a b c) = 34 :: (esc a.data.toList ++ 34 :: tail2 (TT 2 a b c)) := rfl
    rw [e]
    by_cases hb : b.data.toList = []
    · rw [if_pos hb]
      by_cases hc : c.data.toList = []
      · rw [if_pos hc]
        rw [show tail2 (TT 2 a b c) = [] by
          show (if b.data.toList.isEmpty then _ else _) ++ (if c.data.toList.isEmpty then _ else _) = _
          rw [hb, hc]
          rfl]
        rw [show ofL (34 :: (esc a.data.toList ++ [34])) = ((⟨#[34]⟩ : ByteArray) ++ ofL (esc a.data.toList)) ++ (⟨#[34]⟩ : ByteArray) from ba_ext (by simp [app_data, ofL_toList])]
        exact Ev.now _
      rw [if_neg hc]
      have l4 : c.size ≤ 8 := by
        rcases h3 with h3 | h3
        · exact absurd h3 hc
        have := okLang_len h3
        rwa [show (TT 2 a b c).la = c.data.toList from rfl, size_toList] at this
      have z3 : ((((⟨#[34]⟩ : ByteArray) ++ ofL (esc a.data.toList)) ++ (⟨#[34]⟩ : ByteArray)) ++ (⟨#[64]⟩ : ByteArray)).size = 1 + (ofL (esc a.data.toList)).size + 1 + 1 := by rw [ByteArray.size_append, z2]; rfl
      rw [if_pos (by rw [z2]; omega), if_pos (by rw [z3]; omega)]
      rw [show tail2 (TT 2 a b c) = 64 :: c.data.toList by
        show (if b.data.toList.isEmpty then _ else _) ++ (if c.data.toList.isEmpty then _ else _) = _
        rw [hb, ne_empty hc]
        rfl]
      rw [show ofL (34 :: (esc a.data.toList ++ 34 :: 64 :: c.data.toList)) = ((((⟨#[34]⟩ : ByteArray) ++ ofL (esc a.data.toList)) ++ (⟨#[34]⟩ : ByteArray)) ++ (⟨#[64]⟩ : ByteArray)) ++ c from ba_ext (by simp [app_data, ofL_toList])]
      exact Ev.now _
    rw [if_neg hb]
    obtain ⟨h2, hc⟩ : okIri b.data.toList = true ∧ c.data.toList = [] := by
      rcases h2 with h2 | h2
      · exact absurd h2 hb
      exact h2
    have l3 := (okIri_len h2).1
    rw [size_toList] at l3
    have z3 : ((((⟨#[34]⟩ : ByteArray) ++ ofL (esc a.data.toList)) ++ (⟨#[34]⟩ : ByteArray)) ++ (⟨#[94, 94, 60]⟩ : ByteArray)).size = 1 + (ofL (esc a.data.toList)).size + 1 + 3 := by rw [ByteArray.size_append, z2]; rfl
    have z4 : (((((⟨#[34]⟩ : ByteArray) ++ ofL (esc a.data.toList)) ++ (⟨#[34]⟩ : ByteArray)) ++ (⟨#[94, 94, 60]⟩ : ByteArray)) ++ b).size = 1 + (ofL (esc a.data.toList)).size + 1 + 3 + b.size := by rw [ByteArray.size_append, z3]
    rw [if_pos (by rw [z2]; omega), if_pos (by rw [z3]; omega), if_pos (by rw [z4]; omega)]
    rw [show tail2 (TT 2 a b c) = 94 :: 94 :: 60 :: (b.data.toList ++ [62]) by
      show (if b.data.toList.isEmpty then _ else _) ++ (if c.data.toList.isEmpty then _ else _) = _
      rw [hc, ne_empty hb]
      show _ ++ [] = _
      rw [List.append_nil]
      rfl]
    rw [show ofL (34 :: (esc a.data.toList ++ 34 :: 94 :: 94 :: 60 :: (b.data.toList ++ [62]))) = (((((⟨#[34]⟩ : ByteArray) ++ ofL (esc a.data.toList)) ++ (⟨#[34]⟩ : ByteArray)) ++ (⟨#[94, 94, 60]⟩ : ByteArray)) ++ b) ++ (⟨#[62]⟩ : ByteArray) from ba_ext (by simp [app_data, ofL_toList])]
    exact Ev.now _
  obtain ⟨_, _, hl, hk⟩ := okTm_other h k2
  rw [show (TT k0 a b c).x = a.data.toList from rfl, size_toList] at hl
  by_cases k1 : k0 = 1
  · simp only [if_pos k1]
    have z1 : ((⟨#[60]⟩ : ByteArray) ++ a).size = 1 + a.size := by rw [ByteArray.size_append]; rfl
    rw [if_pos (by omega), if_pos (by rw [z1]; omega)]
    rw [show ttext (TT k0 a b c) = 60 :: (a.data.toList ++ [62]) by simp [ttext, TT, k1]]
    rw [show ofL (60 :: (a.data.toList ++ [62])) = ((⟨#[60]⟩ : ByteArray) ++ a) ++ (⟨#[62]⟩ : ByteArray) from ba_ext (by simp [app_data, ofL_toList])]
    exact Ev.now _
  simp only [if_neg k1]
  by_cases k3 : k0 = 3
  · simp only [if_pos k3]
    rw [if_pos (by omega)]
    rw [show ttext (TT k0 a b c) = 95 :: 58 :: a.data.toList by simp [ttext, TT, k3]]
    rw [show ofL (95 :: 58 :: a.data.toList) = (⟨#[95, 58]⟩ : ByteArray) ++ a from ba_ext (by simp [app_data, ofL_toList])]
    exact Ev.now _
  simp only [if_neg k3]
  by_cases k4 : k0 = 4
  · simp only [if_pos k4]
    rw [if_pos (by omega)]
    rw [show ttext (TT k0 a b c) = 63 :: a.data.toList by simp [ttext, TT, k4]]
    rw [show ofL (63 :: a.data.toList) = (⟨#[63]⟩ : ByteArray) ++ a from ba_ext (by simp [app_data, ofL_toList])]
    exact Ev.now _
  simp only [if_neg k4, if_neg k2]
  rw [show ttext (TT k0 a b c) = [] by simp [ttext, TT, k1, k2, k3, k4]]
  exact Ev.now _
theorem rtexts_loop (row : List S43) (hl : row.length ≤ 32) (hc : row.all cellOK = true) : ∀ (r acc : List S43), row = acc ++ r →
    Ev (fun k => legationref17_texts.l0 k row (acc.map fun t => ofL (ttext (T t))) (acc.length : Int)) (row.map fun t => ofL (ttext (T t))) := by
  intro r
  induction r with
  | nil =>
    intro acc hd
    rw [List.append_nil] at hd
    subst hd
    refine Ev.step (fun k => by rw [legationref17_texts.l0]) ?_
    simp only [if_neg (show ¬ ((row.length : Int) < (row.length : Int)) by omega)]
    exact Ev.now _
  | cons c r ih =>
    intro acc hd
    have hll : row.length = acc.length + r.length + 1 := by rw [hd]; simp; omega
    have hm : c ∈ row := by rw [hd]; simp
    have hcc := cellOK_tm (List.all_eq_true.1 hc c hm)
    obtain ⟨hg, _, _, _⟩ := get_of_drop (xs := row) (i := acc.length) (c := c) (r := r) (by rw [hd, List.drop_left']; rfl) z43
    have e : rd_T43 row (acc.length : Int) = c := hg
    refine Ev.step (fun k => by rw [legationref17_texts.l0]) ?_
    simp only [if_pos (show (acc.length : Int) < (row.length : Int) by omega), if_pos (show (0 : Int) ≤ (acc.length : Int) by omega), e, wrap_succ (show acc.length < 9223372036854775807 by omega)]
    refine Ev.bind (rtext_ev c.f0 c.f1 c.f2 c.f3 hcc.1) ?_
    simp only [List.length_map, if_pos (show acc.length < 8796093022208 by omega)]
    have h := ih (acc ++ [c]) (by rw [List.append_assoc]; exact hd)
    rw [List.map_append, List.length_append] at h
    exact h
theorem rtexts_ev (row : List S43) (hl : row.length ≤ 32) (hc : row.all cellOK = true) : Ev (fun k => legationref17_texts.f k row) (row.map fun t => ofL (ttext (T t))) := by
  unfold legationref17_texts.f
  exact rtexts_loop row hl hc row [] rfl
theorem joinT_snoc : ∀ (p : List (List UInt8)) (x : List UInt8), p ≠ [] → joinT (p ++ [x]) = joinT p ++ 9 :: x
  | [], _, h => absurd rfl h
  | [a], x, _ => rfl
  | a :: b :: r, x, _ => by
    have ih := joinT_snoc (b :: r) x (by simp)
    rw [show (a :: b :: r) ++ [x] = a :: b :: (r ++ [x]) from rfl, joinT_cons, joinT_cons, List.append_assoc, List.cons_append, show b :: (r ++ [x]) = (b :: r) ++ [x] from rfl, ih]
theorem rline_loop (xs : List ByteArray) (h1 : xs.length ≤ 32) (h2 : ∀ x ∈ xs, x.size ≤ 20001) : ∀ (r acc : List ByteArray), xs = acc ++ r →
    Ev (fun k => legationref17_line.l0 k xs (ofL (joinT (B acc))) (acc.length : Int)) (ofL (joinT (B xs) ++ [10])) := by
  have bound : ∀ acc : List ByteArray, (∃ r, xs = acc ++ r) → (joinT (B acc)).length ≤ 700000 := by
    rintro acc ⟨r, hd⟩
    have := joinT_len 20001 (B acc) (by
      intro x hx
      obtain ⟨y, hy, rfl⟩ := List.mem_map.1 hx
      rw [size_toList]
      exact h2 y (by rw [hd]; simp [hy]))
    rw [B_len] at this
    have hl : acc.length ≤ 32 := by rw [hd, List.length_append] at h1; omega
    have h3 : acc.length * (20001 + 1) ≤ 32 * 20002 := Nat.mul_le_mul_right _ hl
    omega
  intro r
  induction r with
  | nil =>
    intro acc hd
    rw [List.append_nil] at hd
    subst hd
    refine Ev.step (fun k => by rw [legationref17_line.l0]) ?_
    have hb := bound xs ⟨[], by simp⟩
    simp only [if_neg (show ¬ ((xs.length : Int) < (xs.length : Int)) by omega), if_pos (show (ofL (joinT (B xs))).size + 1 ≤ 9223372036854775807 by rw [ofL_size]; omega)]
    rw [show (⟨#[10]⟩ : ByteArray) = ofL [10] from rfl, ofL_append]
    exact Ev.now _
  | cons c r ih =>
    intro acc hd
    have hll : xs.length = acc.length + r.length + 1 := by rw [hd]; simp; omega
    have hm : c ∈ xs := by rw [hd]; simp
    have hcs := h2 c hm
    have hb := bound acc ⟨_, hd⟩
    obtain ⟨hg, _, _, _⟩ := get_of_drop (xs := xs) (i := acc.length) (c := c) (r := r) (by rw [hd, List.drop_left']; rfl) ByteArray.empty
    have e : rdOf ByteArray.empty xs (acc.length : Int) = c := hg
    have h := ih (acc ++ [c]) (by rw [List.append_assoc]; exact hd)
    rw [List.length_append, show B (acc ++ [c]) = B acc ++ [c.data.toList] by simp [B]] at h
    refine Ev.step (fun k => by rw [legationref17_line.l0]) ?_
    simp only [if_pos (show (acc.length : Int) < (xs.length : Int) by omega), if_pos (show (0 : Int) ≤ (acc.length : Int) by omega), e, wrap_succ (show acc.length < 9223372036854775807 by omega)]
    have hz : (ofL (joinT (B acc))).size ≤ 700000 := by rw [ofL_size]; exact hb
    by_cases h0 : acc = []
    · subst h0
      simp only [List.length_nil, if_neg (show ¬ (((0 : Nat) : Int) > 0) by omega)]
      refine Ev.congr (fun k => if_pos (by omega)) ?_
      have e2 : ofL (joinT (B [])) ++ c = ofL (joinT (B [] ++ [c.data.toList])) := ba_ext (by rw [app_data, ofL_toList, ofL_toList]; rfl)
      rw [e2]
      exact h
    have hp : 0 < acc.length := List.length_pos_iff.2 h0
    have hne : B acc ≠ [] := by
      intro e
      have := congrArg List.length e
      rw [B_len] at this
      simp at this
      exact h0 this
    have z1 : (ofL (joinT (B acc)) ++ (⟨#[9]⟩ : ByteArray)).size = (ofL (joinT (B acc))).size + 1 := by rw [ByteArray.size_append]; rfl
    simp only [if_pos (show (acc.length : Int) > 0 by omega)]
    refine Ev.congr (fun k => (if_pos (by omega)).trans (if_pos (by rw [z1]; omega))) ?_
    have e2 : (ofL (joinT (B acc)) ++ (⟨#[9]⟩ : ByteArray)) ++ c = ofL (joinT (B acc ++ [c.data.toList])) := by
      rw [joinT_snoc _ _ hne]
      exact ba_ext (by rw [app_data, app_data, ofL_toList, ofL_toList]; simp)
    rw [e2]
    exact h
theorem rline_ev (xs : List ByteArray) (h1 : xs.length ≤ 32) (h2 : ∀ x ∈ xs, x.size ≤ 20001) : Ev (fun k => legationref17_line.f k xs) (ofL (joinT (B xs) ++ [10])) := by
  unfold legationref17_line.f
  exact rline_loop xs h1 h2 xs [] rfl
theorem rmarked_loop (xs : List ByteArray) (h1 : xs.length ≤ 32) (h2 : ∀ x ∈ xs, x.size ≤ 32) : ∀ (r acc : List ByteArray), xs = acc ++ r →
    Ev (fun k => legationref17_marked.l0 k xs (acc.map fun t => (⟨#[63]⟩ : ByteArray) ++ t) (acc.length : Int)) (xs.map fun t => (⟨#[63]⟩ : ByteArray) ++ t) := by
  intro r
  induction r with
  | nil =>
    intro acc hd
    rw [List.append_nil] at hd
    subst hd
    refine Ev.step (fun k => by rw [legationref17_marked.l0]) ?_
    simp only [if_neg (show ¬ ((xs.length : Int) < (xs.length : Int)) by omega)]
    exact Ev.now _
  | cons c r ih =>
    intro acc hd
    have hll : xs.length = acc.length + r.length + 1 := by rw [hd]; simp; omega
    have hm : c ∈ xs := by rw [hd]; simp
    have hcs := h2 c hm
    obtain ⟨hg, _, _, _⟩ := get_of_drop (xs := xs) (i := acc.length) (c := c) (r := r) (by rw [hd, List.drop_left']; rfl) ByteArray.empty
    have e : rdOf ByteArray.empty xs (acc.length : Int) = c := hg
    refine Ev.step (fun k => by rw [legationref17_marked.l0]) ?_
    simp only [if_pos (show (acc.length : Int) < (xs.length : Int) by omega), if_pos (show (0 : Int) ≤ (acc.length : Int) by omega), e, if_pos (show 1 + c.size ≤ 9223372036854775807 by omega), List.length_map, if_pos (show acc.length < 8796093022208 by omega), wrap_succ (show acc.length < 9223372036854775807 by omega)]
    have h := ih (acc ++ [c]) (by rw [List.append_assoc]; exact hd)
    rw [List.map_append, List.length_append] at h
    exact h
theorem rmarked_ev (xs : List ByteArray) (h1 : xs.length ≤ 32) (h2 : ∀ x ∈ xs, x.size ≤ 32) : Ev (fun k => legationref17_marked.f k xs) (xs.map fun t => (⟨#[63]⟩ : ByteArray) ++ t) := by
  unfold legationref17_marked.f
  exact rmarked_loop xs h1 h2 xs [] rfl
theorem rowL_len (row : List S43) (n : Nat) (hn : n ≤ 32) (hro : rowOK n row = true) : (rowL row).length ≤ 700000 := by
  unfold rowOK at hro
  rw [Bool.and_eq_true, beq_iff_eq] at hro
  have := joinT_len 20000 (row.map fun t => ttext (T t)) (by
    intro x hx
    obtain ⟨t, ht, rfl⟩ := List.mem_map.1 hx
    exact ttext_len (cellOK_tm (List.all_eq_true.1 hro.2 t ht)).1)
  rw [List.length_map] at this
  have h2 : row.length * (20000 + 1) ≤ 32 * 20001 := Nat.mul_le_mul_right _ (by omega)
  unfold rowL
  omega
theorem rbytes_loop (a0 a1 : Int) (vars : List ByteArray) (hv : vars.length ≤ 32) (tr : Bool) (er : Int) (rows : List (List S43)) (hr : rows.length ≤ 1024) (hok : rows.all (rowOK vars.length) = true) : ∀ (r acc : List (List S43)) (out : List UInt8), rows = acc ++ r → out.length ≤ 1000000 * (acc.length + 2) →
    Ev (fun k => legationref17_Bytes.l0 k (ofL out) (acc.length : Int) a0 a1 vars rows tr er) (ofL (out ++ unl (r.map rowL))) := by
  intro r
  induction r with
  | nil =>
    intro acc out hd ho
    rw [List.append_nil] at hd
    subst hd
    refine Ev.step (fun k => by rw [legationref17_Bytes.l0]) ?_
    simp only [if_neg (show ¬ ((rows.length : Int) < (rows.length : Int)) by omega), List.map_nil, unl_nil, List.append_nil]
    exact Ev.now _
  | cons row r ih =>
    intro acc out hd ho
    have hll : rows.length = acc.length + r.length + 1 := by rw [hd]; simp; omega
    have hm : row ∈ rows := by rw [hd]; simp
    have hro := List.all_eq_true.1 hok row hm
    have hrl := rowL_len row vars.length hv hro
    have hro' := hro
    unfold rowOK at hro'
    rw [Bool.and_eq_true, beq_iff_eq] at hro'
    obtain ⟨hg, _, _, _⟩ := get_of_drop (xs := rows) (i := acc.length) (c := row) (r := r) (by rw [hd, List.drop_left']; rfl) ([] : List S43)
    have e : rd_L3 rows (acc.length : Int) = row := hg
    refine Ev.step (fun k => by rw [legationref17_Bytes.l0]) ?_
    simp only [if_pos (show (acc.length : Int) < (rows.length : Int) by omega), if_pos (show (0 : Int) ≤ (acc.length : Int) by omega), e, wrap_succ (show acc.length < 9223372036854775807 by omega)]
    refine Ev.bind (rtexts_ev row (by omega) hro'.2) ?_
    refine Ev.bind (rline_ev (row.map fun t => ofL (ttext (T t))) (by rw [List.length_map]; omega) (by
      intro x hx
      obtain ⟨t, ht, rfl⟩ := List.mem_map.1 hx
      rw [ofL_size]
      have := ttext_len (cellOK_tm (List.all_eq_true.1 hro'.2 t ht)).1
      omega)) ?_
    have eb : B (row.map fun t => ofL (ttext (T t))) = row.map fun t => ttext (T t) := by
      have := B_ofL (row.map fun t => ttext (T t))
      rwa [List.map_map] at this
    rw [eb, show joinT (row.map fun t => ttext (T t)) = rowL row from rfl]
    have hz : (ofL out).size + (ofL (rowL row ++ [10])).size ≤ 9223372036854775807 := by
      rw [ofL_size, ofL_size, List.length_append]
      simp
      have : 1000000 * (acc.length + 2) ≤ 1000000 * 1026 := Nat.mul_le_mul_left _ (by omega)
      omega
    simp only [if_pos hz, ofL_append]
    have h := ih (acc ++ [row]) (out ++ (rowL row ++ [10])) (by rw [List.append_assoc]; exact hd) (by
      rw [List.length_append, List.length_append, List.length_append]
      simp
      omega)
    rw [List.length_append] at h
    rw [List.map_cons, unl_cons]
    rw [show out ++ (rowL row ++ 10 :: unl (r.map rowL)) = out ++ (rowL row ++ [10]) ++ unl (r.map rowL) by simp]
    exact h
theorem rbytes_ev {a0 a1 : Int} {vars : List ByteArray} {rows : List (List S43)} {tr : Bool} {er : Int} (h : chk a0 a1 vars rows tr er = 0) :
    Ev (fun k => legationref17_Bytes.f k a0 a1 vars rows tr er) (ofL (bytesL a0.toNat a1 vars rows tr er.toNat)) := by
  obtain ⟨p1, p2, hk⟩ := chk_zero h
  have he : 0 ≤ er ∧ er ≤ 9 := by omega
  have l1 := dd_len a0.toNat
  have l2 := dd_len er.toNat
  unfold legationref17_Bytes.f
  refine Ev.bind (digits_ev a0 p1 p2) ?_
  have z1 : (ofL (dd a0.toNat)).size ≤ 4 := by rw [ofL_size]; omega
  have z2 : (ofL (dd a0.toNat) ++ (⟨#[10]⟩ : ByteArray)).size = (ofL (dd a0.toNat)).size + 1 := by rw [ByteArray.size_append]; rfl
  simp only [if_pos (show (ofL (dd a0.toNat)).size + 1 ≤ 9223372036854775807 by omega)]
  rcases hk with ⟨k1, k2, k3, k4, k5⟩ | ⟨k1, k2, k3, k4⟩ | ⟨k1, k2, k3, k4, k5, k6⟩
  · subst k1
    obtain ⟨v1, v2, v3⟩ := rightR_all k4
    have vz : ∀ t ∈ vars, t.size ≤ 32 := by
      intro t ht
      have := (okName_len (v2 _ (List.mem_map.2 ⟨t, ht, rfl⟩))).1
      rwa [size_toList] at this
    have z3 : ((ofL (dd a0.toNat) ++ (⟨#[10]⟩ : ByteArray)) ++ (⟨#[114, 111, 119, 115, 10]⟩ : ByteArray)).size = (ofL (dd a0.toNat)).size + 1 + 5 := by rw [ByteArray.size_append, z2]; rfl
    simp only [if_neg (show ¬ ((1 : Int) = 2) by decide), if_neg (show ¬ ((1 : Int) = 3) by decide), if_pos (show (ofL (dd a0.toNat) ++ (⟨#[10]⟩ : ByteArray)).size + 5 ≤ 9223372036854775807 by rw [z2]; omega)]
    refine Ev.bind (rmarked_ev vars v1 vz) ?_
    refine Ev.bind (rline_ev (vars.map fun t => (⟨#[63]⟩ : ByteArray) ++ t) (by rw [List.length_map]; exact v1) (by
      intro x hx
      obtain ⟨t, ht, rfl⟩ := List.mem_map.1 hx
      rw [ByteArray.size_append, show (⟨#[63]⟩ : ByteArray).size = 1 from rfl]
      have := vz t ht
      omega)) ?_
    have eb : B (vars.map fun t => (⟨#[63]⟩ : ByteArray) ++ t) = (B vars).map (63 :: ·) := by
      unfold B
      rw [List.map_map, List.map_map]
      apply List.map_congr_left
      intro t _
      show ((⟨#[63]⟩ : ByteArray) ++ t).data.toList = 63 :: t.data.toList
      rw [app_data]; rfl
    rw [eb]
    have hjl : (joinT ((B vars).map (63 :: ·))).length ≤ 2000 := by
      have := joinT_len 40 ((B vars).map (63 :: ·)) (by
        intro x hx
        obtain ⟨y, hy, rfl⟩ := List.mem_map.1 hx
        have := (okName_len (v2 y hy)).1
        simp
        omega)
      rw [List.length_map, B_len] at this
      have h3 : vars.length * (40 + 1) ≤ 32 * 41 := Nat.mul_le_mul_right _ v1
      omega
    have hz : ((ofL (dd a0.toNat) ++ (⟨#[10]⟩ : ByteArray)) ++ (⟨#[114, 111, 119, 115, 10]⟩ : ByteArray)).size + (ofL (joinT ((B vars).map (63 :: ·)) ++ [10])).size ≤ 9223372036854775807 := by
      rw [z3, ofL_size (joinT _ ++ _), List.length_append]; simp; omega
    simp only [if_pos hz]
    have eo : ((ofL (dd a0.toNat) ++ (⟨#[10]⟩ : ByteArray)) ++ (⟨#[114, 111, 119, 115, 10]⟩ : ByteArray)) ++ ofL (joinT ((B vars).map (63 :: ·)) ++ [10]) = ofL (dd a0.toNat ++ 10 :: ([114, 111, 119, 115] ++ 10 :: (joinT ((B vars).map (63 :: ·)) ++ [10]))) := ba_ext (by rw [app_data, app_data, app_data, ofL_toList, ofL_toList, ofL_toList]; simp)
    rw [eo]
    have hh := rbytes_loop a0 1 vars v1 tr er rows k5 v3 rows [] (dd a0.toNat ++ 10 :: ([114, 111, 119, 115] ++ 10 :: (joinT ((B vars).map (63 :: ·)) ++ [10]))) rfl (by simp; omega)
    have ef : dd a0.toNat ++ 10 :: ([114, 111, 119, 115] ++ 10 :: (joinT ((B vars).map (63 :: ·)) ++ [10])) ++ unl (rows.map rowL) = bytesL a0.toNat 1 vars rows tr er.toNat := by
      unfold bytesL linesOf
      rw [if_neg (by decide), if_neg (by decide), unl_cons, unl_cons, unl_cons]
      simp
    rw [ef] at hh
    exact hh
  · subst k1
    have ef : bytesL a0.toNat 2 vars rows tr er.toNat = dd a0.toNat ++ 10 :: ((if tr then [116, 114, 117, 101] else [102, 97, 108, 115, 101]) ++ [10]) := by
      unfold bytesL linesOf
      rw [if_pos rfl, unl_cons, unl_cons, unl_nil]
    rw [ef]
    simp only [if_true]
    cases tr with
    | true =>
      simp only [if_true]
      rw [if_pos (by rw [z2]; omega)]
      rw [show ofL (dd a0.toNat ++ 10 :: ([116, 114, 117, 101] ++ [10])) = (ofL (dd a0.toNat) ++ (⟨#[10]⟩ : ByteArray)) ++ (⟨#[116, 114, 117, 101, 10]⟩ : ByteArray) from ba_ext (by rw [app_data, app_data, ofL_toList, ofL_toList]; simp)]
      exact Ev.now _
    | false =>
      simp only [Bool.false_eq_true, if_false]
      rw [if_pos (by rw [z2]; omega)]
      rw [show ofL (dd a0.toNat ++ 10 :: ([102, 97, 108, 115, 101] ++ [10])) = (ofL (dd a0.toNat) ++ (⟨#[10]⟩ : ByteArray)) ++ (⟨#[102, 97, 108, 115, 101, 10]⟩ : ByteArray) from ba_ext (by rw [app_data, app_data, ofL_toList, ofL_toList]; simp)]
      exact Ev.now _
  subst k1
  have ef : bytesL a0.toNat 3 vars rows tr er.toNat = dd a0.toNat ++ 10 :: (([101, 114, 114, 111, 114, 32] ++ dd er.toNat) ++ [10]) := by
    unfold bytesL linesOf
    rw [if_neg (by decide), if_pos rfl, unl_cons, unl_cons, unl_nil]
  rw [ef]
  have z3 : ((ofL (dd a0.toNat) ++ (⟨#[10]⟩ : ByteArray)) ++ (⟨#[101, 114, 114, 111, 114, 32]⟩ : ByteArray)).size = (ofL (dd a0.toNat)).size + 1 + 6 := by rw [ByteArray.size_append, z2]; rfl
  simp only [if_neg (show ¬ ((3 : Int) = 2) by decide), if_true, if_pos (show (ofL (dd a0.toNat) ++ (⟨#[10]⟩ : ByteArray)).size + 6 ≤ 9223372036854775807 by rw [z2]; omega)]
  refine Ev.bind (digits_ev er he.1 (by omega)) ?_
  have z4 : (ofL (dd er.toNat)).size ≤ 4 := by rw [ofL_size]; omega
  have z5 : (((ofL (dd a0.toNat) ++ (⟨#[10]⟩ : ByteArray)) ++ (⟨#[101, 114, 114, 111, 114, 32]⟩ : ByteArray)) ++ ofL (dd er.toNat)).size = (ofL (dd a0.toNat)).size + 1 + 6 + (ofL (dd er.toNat)).size := by rw [ByteArray.size_append, z3]
  rw [if_pos (by rw [z3]; omega), if_pos (by rw [z5]; omega)]
  rw [show ofL (dd a0.toNat ++ 10 :: (([101, 114, 114, 111, 114, 32] ++ dd er.toNat) ++ [10])) = (((ofL (dd a0.toNat) ++ (⟨#[10]⟩ : ByteArray)) ++ (⟨#[101, 114, 114, 111, 114, 32]⟩ : ByteArray)) ++ ofL (dd er.toNat)) ++ (⟨#[10]⟩ : ByteArray) from ba_ext (by rw [app_data, app_data, app_data, app_data, ofL_toList, ofL_toList, ofL_toList]; simp)]
  exact Ev.now _
theorem rput_ev (a0 a1 : Int) (vars : List ByteArray) (rows : List (List S43)) (hr : rows.length ≤ 9223372036854775807) (tr : Bool) (er : Int) :
    Ev (fun k => legationref17_Put.f k a0 a1 vars rows tr er) (if chk a0 a1 vars rows tr er = 0 then finL (bytesL a0.toNat a1 vars rows tr er.toNat) else (⟨#[]⟩, chk a0 a1 vars rows tr er)) := by
  unfold legationref17_Put.f
  have hc := rchk_ev a0 a1 vars rows hr tr er
  refine Ev.bind hc ?_
  by_cases h0 : chk a0 a1 vars rows tr er = 0
  · simp only [if_pos h0]
    refine Ev.bind (rbytes_ev h0) ?_
    rw [ofL_size, finL]
    by_cases hl : (bytesL a0.toNat a1 vars rows tr er.toNat).length > 65536
    · simp only [if_pos hl, if_pos (show ((bytesL a0.toNat a1 vars rows tr er.toNat).length : Int) > 65536 by omega)]
      exact Ev.now _
    simp only [if_neg hl, if_neg (show ¬ (((bytesL a0.toNat a1 vars rows tr er.toNat).length : Int) > 65536) by omega)]
    exact Ev.bind (rbytes_ev h0) (Ev.now _)
  simp only [if_neg h0]
  exact Ev.bind hc (Ev.now _)
theorem copy_loop (vars : List ByteArray) (rows : List (List S43)) (v2 : List ByteArray) (hr : rows.length < 5864062014805) (hin : ∀ z ∈ rows, z.length < 2513169434916) : ∀ (r acc : List (List S43)), rows = acc ++ r →
    Ev (fun k => legationref11_Copy.l0 k (acc.length : Int) vars rows v2 acc) (v2, rows) := by
  intro r
  induction r with
  | nil =>
    intro acc hd
    rw [List.append_nil] at hd
    subst hd
    refine Ev.step (fun k => by rw [legationref11_Copy.l0]) ?_
    simp only [if_neg (show ¬ ((rows.length : Int) < (rows.length : Int)) by omega)]
    exact Ev.now _
  | cons row r ih =>
    intro acc hd
    have hll : rows.length = acc.length + r.length + 1 := by rw [hd]; simp; omega
    have hm : row ∈ rows := by rw [hd]; simp
    have hz := hin row hm
    obtain ⟨hg, _, _, _⟩ := get_of_drop (xs := rows) (i := acc.length) (c := row) (r := r) (by rw [hd, List.drop_left']; rfl) ([] : List S43)
    have e : rd_L3 rows (acc.length : Int) = row := hg
    refine Ev.step (fun k => by rw [legationref11_Copy.l0]) ?_
    simp only [if_pos (show (acc.length : Int) < (rows.length : Int) by omega), if_pos (show (0 : Int) ≤ (acc.length : Int) by omega), e, wrap_succ (show acc.length < 9223372036854775807 by omega), Option.bind_some, List.length_nil, Nat.zero_add, List.nil_append, if_pos hz, if_pos (show acc.length < 5864062014805 by omega)]
    have h := ih (acc ++ [row]) (by rw [List.append_assoc]; exact hd)
    rw [List.length_append] at h
    exact h
theorem copy_ev (vars : List ByteArray) (rows : List (List S43)) (hv : vars.length < 8796093022208) (hr : rows.length < 5864062014805) (hin : ∀ z ∈ rows, z.length < 2513169434916) : Ev (fun k => legationref11_Copy.f k vars rows) (vars, rows) := by
  unfold legationref11_Copy.f
  simp only [Option.bind_some, List.length_nil, Nat.zero_add, List.nil_append, if_pos hv]
  exact copy_loop vars rows vars hr hin rows [] rfl
end Go.Proofs.YtgabadlneeffkaaGreatDoor.P

/- What the reference's Same comes to. -/
namespace Go.Proofs.YtgabadlneeffkaaGreatDoor.P
open Go.RowKit Go.Lib Go.Proofs.YtgabadlneeffkaaGreatDoor Go.Proofs.YtgabadlneeffkaaGreatDoorW.PrintWords Go.Proofs.YtgabadlneeffkaaGreatDoorW.PrintLast
set_option linter.unusedVariables false
set_option linter.unusedSimpArgs false
theorem texts_loop (x y : List ByteArray) (hl : x.length = y.length) (hx : x.length ≤ 9223372036854775807) : ∀ (r s : List ByteArray) (i : Nat), x.drop i = r → y.drop i = s →
    Ev (fun k => legationref03_SameTexts.l0 k x y (i : Int)) (decide (B r = B s)) := by
  intro r
  induction r with
  | nil =>
    intro s i hd he
    have h1 := len_of_drop hd
    have : s = [] := by rw [← he]; exact List.drop_eq_nil_of_le (by omega)
    subst this
    refine Ev.step (fun k => by rw [legationref03_SameTexts.l0]) ?_
    simp only [if_neg (show ¬ ((i : Int) < (x.length : Int)) by omega)]
    exact Ev.now _
  | cons c r ih =>
    intro s i hd he
    obtain ⟨hg, hi, hr, _⟩ := get_of_drop hd ByteArray.empty
    cases s with
    | nil => have := len_of_drop he; omega
    | cons d s =>
      obtain ⟨hg2, _, hs, _⟩ := get_of_drop he ByteArray.empty
      refine Ev.step (fun k => by rw [legationref03_SameTexts.l0]) ?_
      have e1 : rdOf ByteArray.empty x (i : Int) = c := hg
      have e2 : rdOf ByteArray.empty y (i : Int) = d := hg2
      simp only [if_pos (show (i : Int) < (x.length : Int) by omega), if_pos (show (0 : Int) ≤ (i : Int) by omega), if_pos (show (i : Int) < (y.length : Int) by omega), e1, e2, wrap_succ (show i < 9223372036854775807 by omega), tl]
      rw [show B (c :: r) = c.data.toList :: B r from rfl, show B (d :: s) = d.data.toList :: B s from rfl]
      by_cases h : c.data.toList = d.data.toList
      · simp only [if_pos h]
        have := ih s (i + 1) hr hs
        rw [show decide (c.data.toList :: B r = d.data.toList :: B s) = decide (B r = B s) by simp [h]]
        exact this
      simp only [if_neg h]
      rw [show decide (c.data.toList :: B r = d.data.toList :: B s) = false by simp [h]]
      exact Ev.now _
theorem texts_ev (x y : List ByteArray) (hx : x.length ≤ 9223372036854775807) : Ev (fun k => legationref03_SameTexts.f k x y) (decide (B x = B y)) := by
  unfold legationref03_SameTexts.f
  by_cases hl : x.length = y.length
  · simp only [if_pos (show (x.length : Int) = (y.length : Int) by omega)]
    exact texts_loop x y hl hx x y 0 rfl rfl
  simp only [if_neg (show ¬ ((x.length : Int) = (y.length : Int)) by omega)]
  rw [decide_eq_false (fun h => hl (by have := congrArg List.length h; rwa [B_len, B_len] at this))]
  exact Ev.now _
theorem ne_tm (c d : S43) : (!(c.f0 == d.f0) || (!(c.f1.data.toList == d.f1.data.toList) || (!(c.f2.data.toList == d.f2.data.toList) || !(c.f3.data.toList == d.f3.data.toList)))) = !decide (T c = T d) := by
  have e : (T c = T d) = (c.f0 = d.f0 ∧ c.f1.data.toList = d.f1.data.toList ∧ c.f2.data.toList = d.f2.data.toList ∧ c.f3.data.toList = d.f3.data.toList) := by simp only [T, TT, Tm.mk.injEq]
  rw [Bool.eq_iff_iff]
  simp only [Bool.or_eq_true, Bool.not_eq_true', beq_eq_false_iff_ne, decide_eq_false_iff_not, e]
  constructor
  · rintro (h | h | h | h) ⟨g0, g1, g2, g3⟩
    · exact h g0
    · exact h g1
    · exact h g2
    exact h g3
  intro h
  by_cases g0 : c.f0 = d.f0
  · by_cases g1 : c.f1.data.toList = d.f1.data.toList
    · by_cases g2 : c.f2.data.toList = d.f2.data.toList
      · exact .inr (.inr (.inr (fun g3 => h ⟨g0, g1, g2, g3⟩)))
      exact .inr (.inr (.inl g2))
    exact .inr (.inl g1)
  exact .inl g0
theorem row_loop (x y : List S43) (hl : x.length = y.length) (hx : x.length ≤ 9223372036854775807) : ∀ (r s : List S43) (i : Nat), x.drop i = r → y.drop i = s →
    Ev (fun k => legationref04_SameRow.l0 k x y (i : Int)) (decide (r.map T = s.map T)) := by
  intro r
  induction r with
  | nil =>
    intro s i hd he
    have h1 := len_of_drop hd
    have : s = [] := by rw [← he]; exact List.drop_eq_nil_of_le (by omega)
    subst this
    refine Ev.step (fun k => by rw [legationref04_SameRow.l0]) ?_
    simp only [if_neg (show ¬ ((i : Int) < (x.length : Int)) by omega)]
    exact Ev.now _
  | cons c r ih =>
    intro s i hd he
    obtain ⟨hg, hi, hr, _⟩ := get_of_drop hd z43
    cases s with
    | nil => have := len_of_drop he; omega
    | cons d s =>
      obtain ⟨hg2, _, hs, _⟩ := get_of_drop he z43
      refine Ev.step (fun k => by rw [legationref04_SameRow.l0]) ?_
      have e1 : rd_T43 x (i : Int) = c := hg
      have e2 : rd_T43 y (i : Int) = d := hg2
      simp only [if_pos (show (i : Int) < (x.length : Int) by omega), if_pos (show (0 : Int) ≤ (i : Int) by omega), if_pos (show (i : Int) < (y.length : Int) by omega), e1, e2, wrap_succ (show i < 9223372036854775807 by omega), tl]
      have ih' := ih s (i + 1) hr hs
      rw [List.map_cons, List.map_cons]
      rw [ne_tm]
      by_cases h : T c = T d
      · rw [show decide (T c :: r.map T = T d :: s.map T) = decide (r.map T = s.map T) by simp [h]]
        simp only [decide_eq_true h, Bool.not_true, Bool.false_eq_true, if_false]
        exact ih'
      rw [show decide (T c :: r.map T = T d :: s.map T) = false by simp [h]]
      simp only [decide_eq_false h, Bool.not_false, if_true]
      exact Ev.now _
theorem row_ev (x y : List S43) (hx : x.length ≤ 9223372036854775807) : Ev (fun k => legationref04_SameRow.f k x y) (decide (x.map T = y.map T)) := by
  unfold legationref04_SameRow.f
  by_cases hl : x.length = y.length
  · simp only [if_pos (show (x.length : Int) = (y.length : Int) by omega)]
    exact row_loop x y hl hx x y 0 rfl rfl
  simp only [if_neg (show ¬ ((x.length : Int) = (y.length : Int)) by omega)]
  rw [decide_eq_false (fun h => hl (by have := congrArg List.length h; rwa [List.length_map, List.length_map] at this))]
  exact Ev.now _
def RT (l : List (List S43)) : List (List Tm) := l.map (·.map T)
theorem table_loop (a b : List ByteArray) (x y : List (List S43)) (hl : x.length = y.length) (hx : x.length ≤ 9223372036854775807) (hin : ∀ z ∈ x, z.length ≤ 9223372036854775807) : ∀ (r s : List (List S43)) (i : Nat), x.drop i = r → y.drop i = s →
    Ev (fun k => legationref04_SameTable.l0 k (i : Int) a x b y) (decide (RT r = RT s)) := by
  intro r
  induction r with
  | nil =>
    intro s i hd he
    have h1 := len_of_drop hd
    have : s = [] := by rw [← he]; exact List.drop_eq_nil_of_le (by omega)
    subst this
    refine Ev.step (fun k => by rw [legationref04_SameTable.l0]) ?_
    simp only [if_neg (show ¬ ((i : Int) < (x.length : Int)) by omega)]
    exact Ev.now _
  | cons c r ih =>
    intro s i hd he
    obtain ⟨hg, hi, hr, _⟩ := get_of_drop hd ([] : List S43)
    cases s with
    | nil => have := len_of_drop he; omega
    | cons d s =>
      obtain ⟨hg2, _, hs, _⟩ := get_of_drop he ([] : List S43)
      refine Ev.step (fun k => by rw [legationref04_SameTable.l0]) ?_
      have e1 : rd_L3 x (i : Int) = c := hg
      have e2 : rd_L3 y (i : Int) = d := hg2
      have hm : c ∈ x := by
        have : c ∈ x.drop i := by rw [hd]; simp
        exact List.mem_of_mem_drop this
      simp only [if_pos (show (i : Int) < (x.length : Int) by omega), if_pos (show (0 : Int) ≤ (i : Int) by omega), if_pos (show (i : Int) < (y.length : Int) by omega), e1, e2, wrap_succ (show i < 9223372036854775807 by omega)]
      have ih' := ih s (i + 1) hr hs
      refine Ev.bind (row_ev c d (hin c hm)) ?_
      rw [show RT (c :: r) = c.map T :: RT r from rfl, show RT (d :: s) = d.map T :: RT s from rfl]
      by_cases h : c.map T = d.map T
      · rw [show decide (c.map T :: RT r = d.map T :: RT s) = decide (RT r = RT s) by simp [h]]
        simp only [decide_eq_true h, if_true]
        exact ih'
      rw [show decide (c.map T :: RT r = d.map T :: RT s) = false by simp [h]]
      simp only [decide_eq_false h, Bool.false_eq_true, if_false]
      exact Ev.now _
theorem table_ev (a b : List ByteArray) (ha : a.length ≤ 9223372036854775807) (x y : List (List S43)) (hx : x.length ≤ 9223372036854775807) (hin : ∀ z ∈ x, z.length ≤ 9223372036854775807) :
    Ev (fun k => legationref04_SameTable.f k a x b y) (decide (B a = B b ∧ RT x = RT y)) := by
  unfold legationref04_SameTable.f
  refine Ev.bind (texts_ev a b ha) ?_
  have j0 : ∀ z : Bool, z = !decide (B a = B b ∧ x.length = y.length) → Ev (fun k => legationref04_SameTable.j0 k z a x b y) (decide (B a = B b ∧ RT x = RT y)) := by
    intro z hz
    refine Ev.step (fun k => by rw [legationref04_SameTable.j0]) ?_
    by_cases hl : B a = B b ∧ x.length = y.length
    · rw [decide_eq_true hl] at hz
      subst hz
      simp only [Bool.not_true, Bool.false_eq_true, if_false]
      rw [show decide (B a = B b ∧ RT x = RT y) = decide (RT x = RT y) by simp [hl.1]]
      exact table_loop a b x y hl.2 hx hin x y 0 rfl rfl
    rw [decide_eq_false hl] at hz
    subst hz
    simp only [Bool.not_false, if_true]
    rw [decide_eq_false (fun h => hl ⟨h.1, by have := congrArg List.length h.2; simpa [RT] using this⟩)]
    exact Ev.now _
  by_cases h : B a = B b
  · simp only [decide_eq_true h, if_true]
    refine j0 _ ?_
    rw [Bool.eq_iff_iff]
    simp only [h, true_and, bne_iff_ne, ne_eq, Bool.not_eq_true', decide_eq_false_iff_not]
    omega
  simp only [decide_eq_false h, Bool.false_eq_true, if_false]
  exact j0 _ (by rw [decide_eq_false (fun h' => h h'.1)]; rfl)
/-- two replies read the same -/
def sameR (a0 a1 : Int) (a2 : List ByteArray) (a3 : List (List S43)) (a4 : Bool) (a5 : Int) (b0 b1 : Int) (b2 : List ByteArray) (b3 : List (List S43)) (b4 : Bool) (b5 : Int) : Prop :=
  a0 = b0 ∧ a1 = b1 ∧ a4 = b4 ∧ a5 = b5 ∧ B a2 = B b2 ∧ RT a3 = RT b3
instance (a0 a1 : Int) (a2 : List ByteArray) (a3 : List (List S43)) (a4 : Bool) (a5 : Int) (b0 b1 : Int) (b2 : List ByteArray) (b3 : List (List S43)) (b4 : Bool) (b5 : Int) : Decidable (sameR a0 a1 a2 a3 a4 a5 b0 b1 b2 b3 b4 b5) := by unfold sameR; infer_instance
theorem same_ev (a0 a1 : Int) (a2 : List ByteArray) (h2 : a2.length ≤ 9223372036854775807) (a3 : List (List S43)) (h3 : a3.length ≤ 9223372036854775807) (hin : ∀ z ∈ a3, z.length ≤ 9223372036854775807) (a4 : Bool) (a5 : Int)
    (b0 b1 : Int) (b2 : List ByteArray) (b3 : List (List S43)) (b4 : Bool) (b5 : Int) :
    Ev (fun k => legationref17_Same.f k a0 a1 a2 a3 a4 a5 b0 b1 b2 b3 b4 b5) (decide (sameR a0 a1 a2 a3 a4 a5 b0 b1 b2 b3 b4 b5)) := by
  unfold legationref17_Same.f
  by_cases q0 : a0 = b0
  · simp only [if_pos q0]
    by_cases q1 : a1 = b1
    · simp only [if_pos q1]
      by_cases q4 : a4 = b4
      · simp only [beq_iff_eq.mpr q4, if_true]
        by_cases q5 : a5 = b5
        · simp only [if_pos q5]
          refine Ev.bind (table_ev a2 b2 h2 a3 b3 h3 hin) ?_
          rw [show decide (sameR a0 a1 a2 a3 a4 a5 b0 b1 b2 b3 b4 b5) = decide (B a2 = B b2 ∧ RT a3 = RT b3) from decide_eq_decide.2 (by unfold sameR; simp [q0, q1, q4, q5])]
          exact Ev.now _
        simp only [if_neg q5]
        rw [decide_eq_false (show ¬ sameR a0 a1 a2 a3 a4 a5 b0 b1 b2 b3 b4 b5 from fun h => q5 h.2.2.2.1)]
        exact Ev.now _
      simp only [beq_eq_false_iff_ne.mpr q4, Bool.false_eq_true, if_false]
      rw [decide_eq_false (show ¬ sameR a0 a1 a2 a3 a4 a5 b0 b1 b2 b3 b4 b5 from fun h => q4 h.2.2.1)]
      exact Ev.now _
    simp only [if_neg q1]
    rw [decide_eq_false (show ¬ sameR a0 a1 a2 a3 a4 a5 b0 b1 b2 b3 b4 b5 from fun h => q1 h.2.1)]
    exact Ev.now _
  simp only [if_neg q0]
  rw [decide_eq_false (show ¬ sameR a0 a1 a2 a3 a4 a5 b0 b1 b2 b3 b4 b5 from fun h => q0 h.1)]
  exact Ev.now _
end Go.Proofs.YtgabadlneeffkaaGreatDoor.P

/- The law ResultPuts, on what the printed functions compute. -/
namespace Go.Proofs.YtgabadlneeffkaaGreatDoor.P
open Go.RowKit Go.Lib Go.Proofs.YtgabadlneeffkaaGreatDoor Go.Proofs.YtgabadlneeffkaaGreatDoorW.PrintWords Go.Proofs.YtgabadlneeffkaaGreatDoorW.PrintLast
theorem law_Puts (a0 a1 : Int) (vars : List ByteArray) (rows : List (List S43)) (tr : Bool) (er : Int) (hr : rows.length ≤ 9223372036854775807) (hv : vars.length < 1048577) (hrr : rows.length < 1048577) (hin : ∀ z ∈ rows, z.length < 1048577) : ∃ k, legationlaw17_ResultPuts.f k a0 a1 vars rows tr er = some true := by
  apply Ev.rounds
  unfold legationlaw17_ResultPuts.f legationlaw17_big.f
  have aw : Ev (fun k => (legationlaw17_awake.f k).bind fun t => some t) true := Ev.bind awake_ev (Ev.now _)
  have main : Ev (fun k => (legationref11_Copy.f k vars rows).bind fun bt386 => ((result_Put.f k a0 a1 bt386.1 bt386.2 tr er).bind fun bt392 => ((legationref17_Put.f k a0 a1 vars rows tr er).bind fun bt394 => (if bt392.1.toList = bt394.1.toList then (if bt392.2 = bt394.2 then ((legationref17_Same.f k a0 a1 bt386.1 bt386.2 tr er a0 a1 vars rows tr er).bind fun t396 => (if t396 = true then ((legationlaw17_awake.f k).bind fun t397 => (some t397)) else (some false))) else (some false)) else (some false))))) true := by
    refine Ev.bind (copy_ev vars rows (by omega) (by omega) (fun z hz => by have := hin z hz; omega)) ?_
    refine Ev.bind (put_ev a0 a1 vars rows hr tr er) ?_
    refine Ev.bind (rput_ev a0 a1 vars rows hr tr er) ?_
    simp only [if_true]
    have hs := same_ev a0 a1 vars (by omega) rows hr (fun z hz => by have := hin z hz; omega) tr er a0 a1 vars rows tr er
    rw [decide_eq_true (show sameR a0 a1 vars rows tr er a0 a1 vars rows tr er from ⟨rfl, rfl, rfl, rfl, rfl, rfl⟩)] at hs
    refine Ev.bind hs ?_
    simp only [if_true]
    exact aw
  by_cases h : (rows.length : Int) > 60
  · simp only [if_pos h, Option.bind_some]
    by_cases h2 : (rows.length : Int) ≤ 1024
    · simp only [decide_eq_true h2, if_true]
      exact aw
    simp only [decide_eq_false h2, Bool.false_eq_true, if_false]
    exact main
  simp only [if_neg h, Option.bind_some, Bool.false_eq_true, if_false]
  exact main
end Go.Proofs.YtgabadlneeffkaaGreatDoor.P
