import Derived.Test.YtgabadlneeffkaaGreatDoorLJx
import Derived.Test.YtgabadlneeffkaaGreatDoorLSt
/- What the printed functions of term and of its reference come to: the plain words of St.lean. -/
namespace Go.Proofs.YtgabadlneeffkaaGreatDoor.G
open Go.RowKit Go.Lib Go.Proofs.YtgabadlneeffkaaGreatDoor Go.Proofs.YtgabadlneeffkaaGreatDoorW.PrintWords Go.Proofs.YtgabadlneeffkaaGreatDoorW.PrintLast
set_option linter.unusedVariables false
set_option linter.unusedSimpArgs false

theorem bt_of_drop {s : ByteArray} {i : Nat} {c : UInt8} {r : List UInt8} (h : s.data.toList.drop i = c :: r) : bt s (i : Int) = (c.toNat : Int) ∧ i < s.size ∧ s.data.toList.drop (i + 1) = r := by
  have hi : i < s.data.toList.length := by
    rcases Nat.lt_or_ge i s.data.toList.length with h' | h'
    · exact h'
    rw [List.drop_eq_nil_of_le h'] at h; cases h
  have h2 := List.drop_eq_getElem_cons hi
  rw [h] at h2
  injection h2 with h3 h4
  have hs : i < s.size := by rw [← size_toList]; exact hi
  refine ⟨?_, hs, h4.symm⟩
  unfold bt
  rw [dif_pos (by simpa using hs)]
  rw [h3]
  simp
  rfl
theorem size_of_drop {s : ByteArray} {i : Nat} (h : s.data.toList.drop i = []) : s.size ≤ i := by
  rw [← size_toList]
  exact List.drop_eq_nil_iff.1 h
theorem wrap_succ {n : Nat} (h : n < 9223372036854775807) : wrap64 ((n : Int) + 1) = ((n + 1 : Nat) : Int) := by unfold wrap64; omega
theorem wrap_plus {n : Nat} (h : n < 4611686018427387904) : wrap64 ((n : Int) + 2) = ((n + 2 : Nat) : Int) := by unfold wrap64; omega
theorem tl (s : ByteArray) : s.toList = s.data.toList := Lib.toList_data s
theorem ext_toList (s : ByteArray) (i j : Nat) : (s.extract i j).data.toList = (s.data.toList.drop i).take (j - i) := by
  rw [ByteArray.data_extract, Array.toList_extract, List.extract_eq_take_drop]

/-! ### bytes -/
theorem letter_eq (c : UInt8) : term_letter.f (c.toNat : Int) = some (isLet c) :=
  forall_byte (P := fun c => term_letter.f (c.toNat : Int) = some (isLet c)) (by decide +kernel) c
theorem digit_eq (c : UInt8) : term_digit.f (c.toNat : Int) = some (isDig c) :=
  forall_byte (P := fun c => term_digit.f (c.toNat : Int) = some (isDig c)) (by decide +kernel) c
theorem iri_eq (c : UInt8) : iriB c = iriC c := forall_byte (P := fun c => iriB c = iriC c) (by decide +kernel) c
/-! ### names -/
theorem named_loop (s : ByteArray) : ∀ (r : List UInt8) (i : Nat), s.data.toList.drop i = r → i ≤ 32 →
    Ev (fun k => term_named.l0 k s (i : Int)) ((i + ((r.take (32 - i)).takeWhile nameB).length : Nat) : Int) := by
  intro r
  induction r with
  | nil =>
    intro i hd hi
    have := size_of_drop hd
    refine Ev.step (fun k => by rw [term_named.l0]) ?_
    simp only [if_neg (show ¬ ((i : Int) < (s.size : Int)) by omega)]
    simp only [List.take_nil, List.takeWhile_nil, List.length_nil, Nat.add_zero]
    exact Ev.now _
  | cons c r ih =>
    intro i hd hi
    obtain ⟨hb, his, hr⟩ := bt_of_drop hd
    refine Ev.step (fun k => by rw [term_named.l0]) ?_
    by_cases h32 : i = 32
    · subst h32
      simp only [if_pos (show ((32 : Nat) : Int) < (s.size : Int) by omega), if_neg (show ¬ (((32 : Nat) : Int) < 32) by omega)]
      simp only [Nat.sub_self, List.take_zero, List.takeWhile_nil, List.length_nil, Nat.add_zero]
      exact Ev.now _
    simp only [if_pos (show (i : Int) < (s.size : Int) by omega), if_pos (show (i : Int) < 32 by omega), if_pos (show (0 : Int) ≤ (i : Int) by omega), hb, letter_eq, digit_eq, Option.bind_some, wrap_succ (show i < 9223372036854775807 by omega)]
    have e : 32 - i = (32 - (i + 1)) + 1 := by omega
    rw [e, List.take_succ_cons]
    have h := ih (i + 1) hr (by omega)
    by_cases hn : nameB c = true
    · rw [List.takeWhile_cons_of_pos hn, List.length_cons]
      rw [show i + (((r.take (32 - (i + 1))).takeWhile nameB).length + 1) = i + 1 + ((r.take (32 - (i + 1))).takeWhile nameB).length by omega]
      unfold nameB at hn
      by_cases h1 : isLet c = true
      · simp only [h1, if_true]; exact h
      simp only [h1, Bool.false_eq_true, if_false]
      by_cases h2 : isDig c = true
      · simp only [h2, if_true]; exact h
      have h3 : c.toNat = 95 := by simpa [h1, h2] using hn
      simp only [h2, Bool.false_eq_true, if_false, h3, if_pos (show ((95 : Nat) : Int) = 95 from rfl)]
      exact h
    rw [List.takeWhile_cons_of_neg hn, List.length_nil, Nat.add_zero]
    unfold nameB at hn
    simp only [Bool.or_eq_true, not_or, Bool.not_eq_true] at hn
    obtain ⟨⟨h1, h2⟩, h3⟩ := hn
    have h3' : ¬ ((c.toNat : Int) = 95) := by
      intro h; have : c.toNat = 95 := by omega
      simp [this] at h3
    simp only [h1, h2, Bool.false_eq_true, if_false, if_neg h3']
    exact Ev.now _
theorem named_ev (s : ByteArray) : Ev (fun k => term_named.f k s) ((nameN s.data.toList : Nat) : Int) := by
  unfold term_named.f
  simp only [tl]
  cases hl : s.data.toList with
  | nil =>
    simp only [if_true]
    refine Ev.step (fun k => by rw [term_named.j0]) ?_
    simp only [if_true]
    exact Ev.now _
  | cons c r =>
    obtain ⟨hb, his, hr⟩ := bt_of_drop (s := s) (i := 0) (by rw [List.drop_zero]; exact hl)
    simp only [if_neg (show ¬ (c :: r = []) by simp), if_pos (show (0 : Int) < (s.size : Int) by omega), show bt s 0 = (c.toNat : Int) from hb, letter_eq, Option.bind_some]
    refine Ev.step (fun k => by rw [term_named.j0]) ?_
    by_cases h1 : isLet c = true
    · simp only [h1, Bool.not_true, Bool.false_eq_true, if_false]
      rw [show nameN (c :: r) = 1 + ((r.take 31).takeWhile nameB).length by simp [nameN, h1]]
      exact named_loop s r 1 hr (by omega)
    simp only [h1, Bool.not_false, if_true]
    rw [show nameN (c :: r) = 0 by simp [nameN, h1]]
    exact Ev.now _
theorem okName_iff (l : List UInt8) : okName l = (!l.isEmpty && (nameN l == l.length)) := by
  cases l with
  | nil => rfl
  | cons c r =>
    rw [Bool.eq_iff_iff]
    constructor
    · intro h
      obtain ⟨h1, h2⟩ := okName_nameN h
      simp [h1]
    intro h
    simp only [List.isEmpty_cons, Bool.not_false, Bool.true_and, beq_iff_eq] at h
    have := nameN_ok (l := c :: r) (by rw [h, List.length_cons]; omega)
    rwa [h, List.take_length] at this
theorem isName_ev (s : ByteArray) : Ev (fun k => term_IsName.f k s) (okName s.data.toList) := by
  unfold term_IsName.f
  simp only [tl, okName_iff]
  cases hl : s.data.toList with
  | nil => simp only [if_true]; exact Ev.now _
  | cons c r =>
    simp only [if_neg (show ¬ (c :: r = []) by simp)]
    refine Ev.bind (named_ev s) ?_
    rw [hl]
    have hz : s.size = (c :: r).length := by rw [← size_toList, hl]
    rw [hz]
    have e : ((((nameN (c :: r) : Nat) : Int) == (((c :: r).length : Nat) : Int)) : Bool) = (!(c :: r).isEmpty && (nameN (c :: r) == (c :: r).length)) := by
      rw [Bool.eq_iff_iff]
      simp only [List.isEmpty_cons, Bool.not_false, Bool.true_and, beq_iff_eq]
      omega
    rw [e]
    exact Ev.now _
theorem isIri_eq (s : ByteArray) : term_isIri.f s = some (okIri s.data.toList) := by
  unfold term_isIri.f okIri
  rw [← size_toList]
  have e : (iriB : UInt8 → Bool) = iriC := funext iri_eq
  rw [e]
  cases s.data.toList <;> simp

/-! ### texts and languages -/
theorem isText_loop (s : ByteArray) (hs : s.size ≤ 4096) : ∀ (r : List UInt8) (i : Nat), s.data.toList.drop i = r → i ≤ s.size →
    Ev (fun k => term_isText.l0 k s (i : Int)) (r.all textB) := by
  intro r
  induction r with
  | nil =>
    intro i hd hi
    have := size_of_drop hd
    refine Ev.step (fun k => by rw [term_isText.l0]) ?_
    simp only [if_neg (show ¬ ((i : Int) < (s.size : Int)) by omega)]
    exact Ev.now _
  | cons c r ih =>
    intro i hd hi
    obtain ⟨hb, his, hr⟩ := bt_of_drop hd
    refine Ev.step (fun k => by rw [term_isText.l0]) ?_
    simp only [if_pos (show (i : Int) < (s.size : Int) by omega), if_pos (show (0 : Int) ≤ (i : Int) by omega), hb, wrap_succ (show i < 9223372036854775807 by omega)]
    have h := ih (i + 1) hr (by omega)
    rw [List.all_cons]
    by_cases h0 : c.toNat = 10
    · have e : textB c = true := by simp [textB, h0]
      simp only [h0, e, Bool.true_and]
      simp only [if_pos (show ((10 : Nat) : Int) < 32 by decide), if_pos (show ((10 : Nat) : Int) = 10 from rfl)]
      exact h
    by_cases h1 : c.toNat = 9
    · have e : textB c = true := by simp [textB, h1]
      simp only [h1, e, Bool.true_and]
      simp only [if_pos (show ((9 : Nat) : Int) < 32 by decide), if_neg (show ¬ (((9 : Nat) : Int) = 10) by decide), if_pos (show ((9 : Nat) : Int) = 9 from rfl)]
      exact h
    simp only [if_neg (show ¬ ((c.toNat : Int) = 10) by omega), if_neg (show ¬ ((c.toNat : Int) = 9) by omega)]
    by_cases h2 : c.toNat < 32
    · have e : textB c = false := by simp [textB, h0, h1]; omega
      simp only [if_pos (show (c.toNat : Int) < 32 by omega), e, Bool.false_and]
      exact Ev.now _
    simp only [if_neg (show ¬ ((c.toNat : Int) < 32) by omega)]
    by_cases h3 : c.toNat > 126
    · have e : textB c = false := by simp [textB, h0, h1]; omega
      simp only [if_pos (show (c.toNat : Int) > 126 by omega), e, Bool.false_and]
      exact Ev.now _
    have e : textB c = true := by simp [textB, h0, h1]; omega
    simp only [if_neg (show ¬ ((c.toNat : Int) > 126) by omega), e, Bool.true_and]
    exact h
theorem isText_ev (s : ByteArray) : Ev (fun k => term_isText.f k s) (okText s.data.toList) := by
  unfold term_isText.f okText
  rw [size_toList]
  by_cases h : s.size ≤ 4096
  · simp only [if_neg (show ¬ ((s.size : Int) > 4096) by omega), decide_eq_true h, Bool.true_and]
    exact isText_loop s h _ 0 rfl (by omega)
  simp only [if_pos (show (s.size : Int) > 4096 by omega), decide_eq_false h, Bool.false_and]
  exact Ev.now _
theorem isLang_loop (s : ByteArray) (hs : s.size ≤ 4096) : ∀ (r : List UInt8) (i : Nat), s.data.toList.drop i = r → i ≤ s.size →
    Ev (fun k => term_isLang.l0 k s (i : Int)) (r.all langB) := by
  intro r
  induction r with
  | nil =>
    intro i hd hi
    have := size_of_drop hd
    refine Ev.step (fun k => by rw [term_isLang.l0]) ?_
    simp only [if_neg (show ¬ ((i : Int) < (s.size : Int)) by omega)]
    exact Ev.now _
  | cons c r ih =>
    intro i hd hi
    obtain ⟨hb, his, hr⟩ := bt_of_drop hd
    refine Ev.step (fun k => by rw [term_isLang.l0]) ?_
    simp only [if_pos (show (i : Int) < (s.size : Int) by omega), if_pos (show (0 : Int) ≤ (i : Int) by omega), hb, wrap_succ (show i < 9223372036854775807 by omega)]
    have h := ih (i + 1) hr (by omega)
    rw [List.all_cons]
    by_cases h2 : c.toNat < 97
    · have e : langB c = false := by simp [langB]; omega
      simp only [if_pos (show (c.toNat : Int) < 97 by omega), e, Bool.false_and]
      exact Ev.now _
    simp only [if_neg (show ¬ ((c.toNat : Int) < 97) by omega)]
    by_cases h3 : c.toNat > 122
    · have e : langB c = false := by simp [langB]; omega
      simp only [if_pos (show (c.toNat : Int) > 122 by omega), e, Bool.false_and]
      exact Ev.now _
    have e : langB c = true := by simp [langB]; omega
    simp only [if_neg (show ¬ ((c.toNat : Int) > 122) by omega), e, Bool.true_and]
    exact h
theorem isLang_ev (s : ByteArray) : Ev (fun k => term_isLang.f k s) (okLang s.data.toList) := by
  unfold term_isLang.f okLang
  rw [size_toList]
  simp only [tl]
  by_cases h0 : s.data.toList = []
  · simp only [h0, if_true]
    refine Ev.step (fun k => by rw [term_isLang.j0]) ?_
    simp only [if_true]
    exact Ev.now _
  have e0 : s.data.toList.isEmpty = false := by simpa using h0
  simp only [if_neg h0, e0]
  refine Ev.step (fun k => by rw [term_isLang.j0]) ?_
  by_cases h : s.size ≤ 8
  · simp only [decide_eq_false (show ¬ ((s.size : Int) > 8) by omega), decide_eq_true h, Bool.not_false, Bool.true_and, Bool.false_eq_true, if_false]
    exact isLang_loop s (by omega) _ 0 rfl (by omega)
  simp only [decide_eq_true (show (s.size : Int) > 8 by omega), decide_eq_false h, Bool.not_false, Bool.true_and, Bool.false_and, if_true]
  exact Ev.now _

/-! ### term.Check -/
def TT (k : Int) (a b c : ByteArray) : Tm := ⟨k, a.data.toList, b.data.toList, c.data.toList⟩
def T (t : S43) : Tm := TT t.f0 t.f1 t.f2 t.f3
def e02 (b : Bool) : Int := if b then 0 else 2
theorem ne_empty {l : List UInt8} (h : ¬ l = []) : l.isEmpty = false := by simpa using h
theorem tcheck_ev (k0 : Int) (a b c : ByteArray) : Ev (fun k => term_Check.f k k0 a b c) (e02 (okTm (TT k0 a b c))) := by
  have main : Ev (fun k => term_Check.j0 k false (if b.data.toList = [] then (c.data.toList == []) else false) k0 a b c) (e02 (okTm (TT k0 a b c))) := by
    refine Ev.step (fun k => by rw [term_Check.j0]) ?_
    unfold okTm TT
    simp only [tl]
    by_cases h2 : k0 = 2
    · subst h2
      simp only [if_neg (show ¬ ((2 : Int) = 0) by decide), if_neg (show ¬ ((2 : Int) = 1) by decide), if_neg (show ¬ ((2 : Int) = 3) by decide), if_true]
      refine Ev.step (fun k => by rw [term_Check.j1]) ?_
      simp only [tl, show ((2 : Int) == 4) = false from rfl, Bool.false_eq_true, if_false, if_true]
      refine Ev.bind (isText_ev a) ?_
      cases hx : okText a.data.toList with
      | false => simp only [Bool.false_eq_true, if_false, Bool.false_and]; exact Ev.now _
      | true =>
        simp only [if_true, Bool.true_and]
        by_cases hb : b.data.toList = []
        · simp only [hb, if_true, List.isEmpty_nil, Bool.true_or, Bool.true_and]
          by_cases hc : c.data.toList = []
          · simp only [hc, if_true, List.isEmpty_nil, Bool.true_or]; exact Ev.now _
          simp only [if_neg hc, ne_empty hc, Bool.false_or]
          refine Ev.bind (isLang_ev c) ?_
          cases okLang c.data.toList <;> simp only [Bool.false_eq_true, if_false, if_true] <;> exact Ev.now _
        simp only [if_neg hb, ne_empty hb, Bool.false_or, isIri_eq, Option.bind_some, Bool.false_and]
        cases okIri b.data.toList with
        | false => simp only [Bool.false_eq_true, if_false, Bool.false_and]; exact Ev.now _
        | true =>
          simp only [if_true, Bool.true_and, Bool.or_false]
          by_cases hc : c.data.toList = []
          · simp only [hc, if_true, List.isEmpty_nil]; exact Ev.now _
          simp only [if_neg hc, ne_empty hc]; exact Ev.now _
    simp only [if_neg h2]
    have hbare : (if b.data.toList = [] then (c.data.toList == []) else false) = (b.data.toList.isEmpty && c.data.toList.isEmpty) := by
      cases b.data.toList <;> cases c.data.toList <;> simp
    simp only [hbare]
    generalize (b.data.toList.isEmpty && c.data.toList.isEmpty) = bare
    by_cases h0 : k0 = 0
    · subst h0
      simp only [if_true]
      cases bare
      · simp only [Bool.false_eq_true, if_false, Bool.false_and]; exact Ev.now _
      simp only [if_true, Bool.true_and]
      by_cases ha : a.data.toList = []
      · simp only [ha, if_true, List.isEmpty_nil]; exact Ev.now _
      simp only [if_neg ha, ne_empty ha]; exact Ev.now _
    simp only [if_neg h0]
    by_cases h1 : k0 = 1
    · subst h1
      simp only [if_true, isIri_eq, Option.bind_some]
      cases bare
      · simp only [Bool.false_eq_true, if_false, Bool.false_and]; exact Ev.now _
      simp only [if_true, Bool.true_and]
      cases okIri a.data.toList <;> simp only [Bool.false_eq_true, if_false, if_true] <;> exact Ev.now _
    simp only [if_neg h1]
    have hj : ∀ x : Bool, x = decide (k0 = 3 ∨ k0 = 4) → Ev (fun k => term_Check.j1 k false bare k0 x k0 a b c) (e02 (bare && (if k0 = 3 ∨ k0 = 4 then okName a.data.toList else false))) := by
      intro x hx
      refine Ev.step (fun k => by rw [term_Check.j1]) ?_
      by_cases h34 : k0 = 3 ∨ k0 = 4
      · rw [decide_eq_true h34] at hx
        subst hx
        simp only [if_true, if_pos h34]
        cases bare
        · simp only [Bool.false_eq_true, if_false, Bool.false_and]; exact Ev.now _
        simp only [if_true, Bool.true_and]
        refine Ev.bind (isName_ev a) ?_
        cases okName a.data.toList <;> simp only [Bool.false_eq_true, if_false, if_true] <;> exact Ev.now _
      rw [decide_eq_false h34] at hx
      subst hx
      simp only [Bool.false_eq_true, if_false, if_neg h34, if_neg h2, Bool.and_false]
      exact Ev.now _
    by_cases h3 : k0 = 3
    · simp only [if_pos h3]
      exact hj _ (by simp [h3])
    simp only [if_neg h3]
    exact hj _ (by rw [Bool.eq_iff_iff]; simp [h3])
  unfold term_Check.f
  simp only [tl]
  by_cases hb : b.data.toList = []
  · simp only [if_pos hb] at main ⊢
    exact main
  simp only [if_neg hb] at main ⊢
  exact main

/-! ### the reference's -/
def kindB (n : Int) (c : UInt8) : Bool := if n = 1 then iriC c else if n = 2 then textB c else if n = 3 then nameB c else if n = 4 then langB c else false
theorem okName_all (l : List UInt8) : okName l = (decide (1 ≤ l.length) && decide (l.length ≤ 32) && l.all nameB && (match l with | c :: _ => isLet c | [] => false)) := by
  cases l with
  | nil => rfl
  | cons c r =>
    unfold okName
    rw [Bool.eq_iff_iff]
    simp only [Bool.and_eq_true, decide_eq_true_eq, List.length_cons, List.all_cons]
    constructor
    · rintro ⟨⟨h1, h2⟩, h3⟩
      exact ⟨⟨⟨by omega, by omega⟩, by simp [nameB, h1], h2⟩, h1⟩
    rintro ⟨⟨⟨h1, h2⟩, h3, h4⟩, h5⟩
    exact ⟨⟨h5, h4⟩, by omega⟩
end Go.Proofs.YtgabadlneeffkaaGreatDoor.G

/- What the printed functions of table.Check, result.Check and of their references come to. -/
namespace Go.Proofs.YtgabadlneeffkaaGreatDoor.G
open Go.RowKit Go.Lib Go.Proofs.YtgabadlneeffkaaGreatDoor Go.Proofs.YtgabadlneeffkaaGreatDoorW.PrintWords Go.Proofs.YtgabadlneeffkaaGreatDoorW.PrintLast
set_option linter.unusedVariables false
set_option linter.unusedSimpArgs false

theorem get_of_drop {α : Type} {xs : List α} {i : Nat} {c : α} {r : List α} (h : xs.drop i = c :: r) (d : α) : xs.getD ((i : Int)).toNat d = c ∧ i < xs.length ∧ xs.drop (i + 1) = r ∧ xs.take (i + 1) = xs.take i ++ [c] := by
  have hi : i < xs.length := by
    rcases Nat.lt_or_ge i xs.length with h' | h'
    · exact h'
    rw [List.drop_eq_nil_of_le h'] at h; cases h
  have h2 := List.drop_eq_getElem_cons hi
  rw [h] at h2
  injection h2 with h3 h4
  refine ⟨?_, hi, h4.symm, ?_⟩
  · rw [Int.toNat_natCast, List.getD_eq_getElem?_getD, List.getElem?_eq_getElem hi, h3]; rfl
  rw [List.take_add_one, List.getElem?_eq_getElem hi, h3]; rfl
theorem len_of_drop {α : Type} {xs : List α} {i : Nat} (h : xs.drop i = []) : xs.length ≤ i := List.drop_eq_nil_iff.1 h
def B (l : List ByteArray) : List (List UInt8) := l.map (·.data.toList)
theorem B_len (l : List ByteArray) : (B l).length = l.length := by simp [B]
def idxOf (a : List UInt8) : List (List UInt8) → Nat → Int
  | [], _ => -1
  | h :: t, i => if a = h then (i : Int) else idxOf a t (i + 1)
theorem idxOf_ge (a : List UInt8) : ∀ (l : List (List UInt8)) (i : Nat), decide (idxOf a l i ≥ 0) = l.contains a
  | [], i => by simp [idxOf]
  | h :: t, i => by
    unfold idxOf
    by_cases e : a = h
    · simp [e]
    rw [if_neg e, idxOf_ge a t (i + 1), List.contains_cons, beq_eq_false_iff_ne.mpr e, Bool.false_or]
theorem index_loop (x : List ByteArray) (hx : x.length ≤ 9223372036854775807) (a : ByteArray) : ∀ (r : List ByteArray) (i : Nat), x.drop i = r →
    Ev (fun k => slices_Index_string_string.l0 k x a (x.length : Int) (i : Int)) (idxOf a.data.toList (B r) i) := by
  intro r
  induction r with
  | nil =>
    intro i hd
    have := len_of_drop hd
    refine Ev.step (fun k => by rw [slices_Index_string_string.l0]) ?_
    simp only [if_neg (show ¬ ((i : Int) < (x.length : Int)) by omega)]
    exact Ev.now _
  | cons c r ih =>
    intro i hd
    obtain ⟨hg, hi, hr, _⟩ := get_of_drop hd ByteArray.empty
    refine Ev.step (fun k => by rw [slices_Index_string_string.l0]) ?_
    have e : rdOf ByteArray.empty x (i : Int) = c := hg
    simp only [if_pos (show (i : Int) < (x.length : Int) by omega), if_pos (show (0 : Int) ≤ (i : Int) by omega), e, wrap_succ (show i < 9223372036854775807 by omega), tl]
    rw [show B (c :: r) = c.data.toList :: B r from rfl, idxOf]
    by_cases h : a.data.toList = c.data.toList
    · simp only [if_pos h]; exact Ev.now _
    simp only [if_neg h]; exact ih (i + 1) hr
theorem contains_ev (x : List ByteArray) (hx : x.length ≤ 9223372036854775807) (a : ByteArray) : Ev (fun k => slices_Contains_string_string.f k x a) ((B x).contains a.data.toList) := by
  unfold slices_Contains_string_string.f slices_Index_string_string.f
  refine Ev.bind (index_loop x hx a x 0 rfl) ?_
  rw [idxOf_ge]
  exact Ev.now _
/-! ### tables -/
def nmOK : List (List UInt8) → List (List UInt8) → Bool
  | _, [] => true
  | p, v :: r => okName v && !p.contains v && nmOK (p ++ [v]) r
def cellOK (t : S43) : Bool := !(t.f0 == 4) && okTm (T t)
def rowOK (n : Nat) (row : List S43) : Bool := row.length == n && row.all cellOK
def tabOK (vars : List ByteArray) (rows : List (List S43)) : Bool := decide (vars.length ≤ 32) && decide (rows.length ≤ 4096) && nmOK [] (B vars) && rows.all (rowOK vars.length)
theorem e02_false : e02 false = 2 := rfl
theorem e02_true : e02 true = 0 := rfl
theorem cells_loop (vars : List ByteArray) (rows : List (List S43)) (i : Nat) (row : List S43) (hrow : row.length ≤ 9223372036854775807) (hi : i < 9223372036854775807) (v : Bool)
    (hn : Ev (fun k => table_Check.l1 k rows (rows.length : Int) ((i + 1 : Nat) : Int) vars rows) (e02 v)) : ∀ (r : List S43) (j : Nat), row.drop j = r →
    Ev (fun k => table_Check.l2 k rows (rows.length : Int) (i : Int) row (row.length : Int) (j : Int) vars rows) (e02 (r.all cellOK && v)) := by
  intro r
  induction r with
  | nil =>
    intro j hd
    have := len_of_drop hd
    refine Ev.step (fun k => by rw [table_Check.l2]) ?_
    simp only [if_neg (show ¬ ((j : Int) < (row.length : Int)) by omega), wrap_succ hi]
    exact hn
  | cons c r ih =>
    intro j hd
    obtain ⟨hg, hj, hr, _⟩ := get_of_drop hd z43
    refine Ev.step (fun k => by rw [table_Check.l2]) ?_
    have e : rd_T43 row (j : Int) = c := hg
    simp only [if_pos (show (j : Int) < (row.length : Int) by omega), if_pos (show (0 : Int) ≤ (j : Int) by omega), e, wrap_succ (show j < 9223372036854775807 by omega)]
    rw [List.all_cons, cellOK]
    by_cases h4 : c.f0 = 4
    · simp only [if_pos h4, h4, beq_self_eq_true, Bool.not_true, Bool.false_and]; exact Ev.now _
    simp only [if_neg h4, beq_eq_false_iff_ne.mpr h4, Bool.not_false, Bool.true_and]
    refine Ev.bind (tcheck_ev c.f0 c.f1 c.f2 c.f3) ?_
    rw [show TT c.f0 c.f1 c.f2 c.f3 = T c from rfl]
    cases okTm (T c) with
    | false => simp only [e02_false, if_neg (show ¬ ((2 : Int) = 0) by decide), Bool.false_and]; exact Ev.now _
    | true => simp only [e02_true, if_true, Bool.true_and]; exact ih (j + 1) hr
theorem rows_loop (vars : List ByteArray) (hv : vars.length ≤ 32) (rows : List (List S43)) (hrows : rows.length ≤ 4096) : ∀ (r : List (List S43)) (i : Nat), rows.drop i = r →
    Ev (fun k => table_Check.l1 k rows (rows.length : Int) (i : Int) vars rows) (e02 (r.all (rowOK vars.length))) := by
  intro r
  induction r with
  | nil =>
    intro i hd
    have := len_of_drop hd
    refine Ev.step (fun k => by rw [table_Check.l1]) ?_
    simp only [if_neg (show ¬ ((i : Int) < (rows.length : Int)) by omega)]
    exact Ev.now _
  | cons c r ih =>
    intro i hd
    obtain ⟨hg, hi, hr, _⟩ := get_of_drop hd ([] : List S43)
    refine Ev.step (fun k => by rw [table_Check.l1]) ?_
    have e : rd_L3 rows (i : Int) = c := hg
    simp only [if_pos (show (i : Int) < (rows.length : Int) by omega), if_pos (show (0 : Int) ≤ (i : Int) by omega), e]
    rw [List.all_cons, rowOK]
    by_cases hl : c.length = vars.length
    · simp only [if_pos (show (c.length : Int) = (vars.length : Int) by omega), hl, beq_self_eq_true, Bool.true_and]
      have := cells_loop vars rows i c (by omega) (by omega) _ (ih (i + 1) hr) c 0 rfl
      rw [hl] at this
      exact this
    simp only [if_neg (show ¬ ((c.length : Int) = (vars.length : Int)) by omega), beq_eq_false_iff_ne.mpr hl, Bool.false_and]
    exact Ev.now _
theorem names_loop (vars : List ByteArray) (hv : vars.length ≤ 32) (rows : List (List S43)) (hrows : rows.length ≤ 4096) : ∀ (r : List ByteArray) (i : Nat), vars.drop i = r →
    Ev (fun k => table_Check.l0 k vars (vars.length : Int) (i : Int) vars rows) (e02 (nmOK (B (vars.take i)) (B r) && rows.all (rowOK vars.length))) := by
  intro r
  induction r with
  | nil =>
    intro i hd
    have := len_of_drop hd
    refine Ev.step (fun k => by rw [table_Check.l0]) ?_
    simp only [if_neg (show ¬ ((i : Int) < (vars.length : Int)) by omega)]
    rw [show B [] = [] from rfl, nmOK, Bool.true_and]
    exact rows_loop vars hv rows hrows rows 0 rfl
  | cons c r ih =>
    intro i hd
    obtain ⟨hg, hi, hr, ht⟩ := get_of_drop hd ByteArray.empty
    refine Ev.step (fun k => by rw [table_Check.l0]) ?_
    have e : rdOf ByteArray.empty vars (i : Int) = c := hg
    simp only [if_pos (show (i : Int) < (vars.length : Int) by omega), if_pos (show (0 : Int) ≤ (i : Int) by omega), if_pos (show (i : Int) ≤ (vars.length : Int) by omega), e, wrap_succ (show i < 9223372036854775807 by omega), Int.toNat_natCast]
    rw [show B (c :: r) = c.data.toList :: B r from rfl, nmOK]
    refine Ev.bind (isName_ev c) ?_
    cases okName c.data.toList with
    | false => simp only [Bool.false_eq_true, if_false, Bool.false_and]; exact Ev.now _
    | true =>
      simp only [if_true, Bool.true_and]
      refine Ev.bind (contains_ev (vars.take i) (by rw [List.length_take]; omega) c) ?_
      cases (B (vars.take i)).contains c.data.toList with
      | true => simp only [if_true, Bool.not_true, Bool.false_and]; exact Ev.now _
      | false =>
        simp only [Bool.false_eq_true, if_false, Bool.not_false, Bool.true_and]
        have h := ih (i + 1) hr
        rw [ht] at h
        rw [show B (vars.take i) ++ [c.data.toList] = B (vars.take i ++ [c]) by simp [B]]
        exact h
theorem tabcheck_ev (vars : List ByteArray) (rows : List (List S43)) : Ev (fun k => table_Check.f k vars rows) (e02 (tabOK vars rows)) := by
  unfold table_Check.f tabOK
  by_cases h1 : vars.length ≤ 32
  · simp only [if_neg (show ¬ ((vars.length : Int) > 32) by omega), decide_eq_true h1, Bool.true_and]
    refine Ev.step (fun k => by rw [table_Check.j0]) ?_
    by_cases h2 : rows.length ≤ 4096
    · simp only [decide_eq_false (show ¬ ((rows.length : Int) > 4096) by omega), Bool.false_eq_true, if_false, decide_eq_true h2, Bool.true_and]
      exact names_loop vars h1 rows h2 vars 0 rfl
    simp only [decide_eq_true (show (rows.length : Int) > 4096 by omega), if_true, decide_eq_false h2, Bool.false_and]
    exact Ev.now _
  simp only [if_pos (show (vars.length : Int) > 32 by omega), decide_eq_false h1, Bool.false_and]
  refine Ev.step (fun k => by rw [table_Check.j0]) ?_
  simp only [if_true]
  exact Ev.now _

/-! ### the reference's table -/
/-! ### replies -/
def rightR (vars : List ByteArray) (rows : List (List S43)) : Bool := tabOK vars [] && rows.all (fun r => tabOK vars [r])
def badR (id kind err : Int) : Prop := id < 0 ∨ id ≥ 4096 ∨ kind < 1 ∨ kind > 3 ∨ (kind = 3 ∧ (err < 1 ∨ err > 9))
instance (id kind err : Int) : Decidable (badR id kind err) := by unfold badR; infer_instance
def chk (id kind : Int) (vars : List ByteArray) (rows : List (List S43)) (truth : Bool) (err : Int) : Int :=
  if badR id kind err then 1
  else if kind = 1 then (if truth = true ∨ ¬ err = 0 ∨ ¬ rightR vars rows = true then 2 else if rows.length > 1024 then 3 else 0)
  else if kind = 2 then (if vars.length = 0 ∧ rows.length = 0 ∧ err = 0 then 0 else 2)
  else (if vars.length = 0 ∧ rows.length = 0 ∧ truth = false then 0 else 2)
theorem chk_loop (a0 a1 : Int) (vars : List ByteArray) (rows : List (List S43)) (hr : rows.length ≤ 9223372036854775807) (tr : Bool) (er : Int) : ∀ (r : List (List S43)) (i : Nat) (y : List (List S43)), rows.drop i = r →
    Ev (fun k => result_Check.l0 k rows (rows.length : Int) (i : Int) a0 a1 vars rows tr er vars y) (if r.all (fun r => tabOK vars [r]) = true then (if rows.length > 1024 then 3 else 0) else 2) := by
  intro r
  induction r with
  | nil =>
    intro i y hd
    have := len_of_drop hd
    refine Ev.step (fun k => by rw [result_Check.l0]) ?_
    simp only [if_neg (show ¬ ((i : Int) < (rows.length : Int)) by omega), List.all_nil, if_true]
    by_cases h : rows.length > 1024
    · simp only [if_pos (show (rows.length : Int) > 1024 by omega), if_pos h]; exact Ev.now _
    simp only [if_neg (show ¬ ((rows.length : Int) > 1024) by omega), if_neg h]; exact Ev.now _
  | cons c r ih =>
    intro i y hd
    obtain ⟨hg, hi, hr, _⟩ := get_of_drop hd ([] : List S43)
    refine Ev.step (fun k => by rw [result_Check.l0]) ?_
    have e : rd_L3 rows (i : Int) = c := hg
    simp only [if_pos (show (i : Int) < (rows.length : Int) by omega), if_pos (show (0 : Int) ≤ (i : Int) by omega), e, Option.bind_some, wrap_succ (show i < 9223372036854775807 by omega)]
    refine Ev.bind (tabcheck_ev vars [c]) ?_
    rw [List.all_cons]
    cases tabOK vars [c] with
    | false => simp only [e02_false, if_neg (show ¬ ((2 : Int) = 0) by decide), Bool.false_and, Bool.false_eq_true, if_false]; exact Ev.now _
    | true => simp only [e02_true, if_true, Bool.true_and]; exact ih (i + 1) _ hr
theorem empty_eq (vars : List ByteArray) (rows : List (List S43)) : result_empty.f vars rows = some (decide (vars.length = 0 ∧ rows.length = 0)) := by
  unfold result_empty.f
  by_cases h : vars.length = 0
  · rw [if_pos (by omega)]
    congr 1
    rw [Bool.eq_iff_iff]
    simp only [h, true_and, beq_iff_eq, decide_eq_true_eq]
    omega
  rw [if_neg (by omega), decide_eq_false (fun x => h x.1)]
theorem bad_j {β : Type} (g : Bool → Nat → Option β) (a0 a1 er : Int) (z : β) (h : Ev (g (decide (badR a0 a1 er))) z) :
    Ev (fun k => if a0 < 0 then g true k else (if a0 ≥ 4096 then g true k else (if a1 < 1 then g true k else (if a1 > 3 then g true k else (if a1 = 3 then (if er < 1 then g true k else g (decide (er > 9)) k) else g false k))))) z := by
  have key : ∀ x : Bool, (x = true ↔ badR a0 a1 er) → Ev (g x) z := by
    intro x hx
    rwa [show x = decide (badR a0 a1 er) by rw [Bool.eq_iff_iff, hx, decide_eq_true_eq]]
  unfold badR at key
  by_cases h1 : a0 < 0
  · simp only [if_pos h1]; exact key true (by simp [h1])
  simp only [if_neg h1]
  by_cases h2 : a0 ≥ 4096
  · simp only [if_pos h2]; exact key true (by simp [h2])
  simp only [if_neg h2]
  by_cases h3 : a1 < 1
  · simp only [if_pos h3]; exact key true (by simp [h3])
  simp only [if_neg h3]
  by_cases h4 : a1 > 3
  · simp only [if_pos h4]; exact key true (by simp [h4])
  simp only [if_neg h4]
  by_cases h5 : a1 = 3
  · simp only [if_pos h5]
    by_cases h6 : er < 1
    · simp only [if_pos h6]; exact key true (by simp [h5, h6])
    simp only [if_neg h6]
    exact key _ (by rw [decide_eq_true_eq]; omega)
  simp only [if_neg h5]
  exact key false (by simp [h1, h2, h3, h4, h5])
theorem chk_ev (a0 a1 : Int) (vars : List ByteArray) (rows : List (List S43)) (hr : rows.length ≤ 9223372036854775807) (tr : Bool) (er : Int) : Ev (fun k => result_Check.f k a0 a1 vars rows tr er) (chk a0 a1 vars rows tr er) := by
  unfold result_Check.f
  refine bad_j (fun b k => result_Check.j0 k b a0 a1 vars rows tr er) a0 a1 er _ ?_
  refine Ev.step (fun k => by rw [result_Check.j0]) ?_
  unfold chk
  by_cases hb : badR a0 a1 er
  · simp only [decide_eq_true hb, if_true, if_pos hb]; exact Ev.now _
  simp only [decide_eq_false hb, Bool.false_eq_true, if_false, if_neg hb]
  by_cases k1 : a1 = 1
  · simp only [if_pos k1]
    have hbad : Ev (fun k => result_Check.j1 k true a0 a1 vars rows tr er vars) 2 := by
      refine Ev.step (fun k => by rw [result_Check.j1]) ?_
      simp only [if_true]; exact Ev.now _
    cases tr with
    | true => simp only [if_true, true_or]; exact hbad
    | false =>
      simp only [Bool.false_eq_true, if_false, false_or]
      by_cases he : er = 0
      · subst he
        simp only [if_true, not_true, false_or]
        refine Ev.bind (tabcheck_ev vars []) ?_
        unfold rightR
        cases tabOK vars [] with
        | false => 
          simp only [e02_false, Bool.false_and, Bool.false_eq_true, not_false_iff, if_true]
          exact hbad
        | true =>
          simp only [e02_true, Bool.true_and]
          refine Ev.step (fun k => by rw [result_Check.j1]) ?_
          simp only [show ((0 : Int) != 0) = false from rfl, Bool.false_eq_true, if_false]
          have h := chk_loop a0 a1 vars rows hr false 0 rows 0 [] rfl
          by_cases ha : rows.all (fun r => tabOK vars [r]) = true
          · rw [if_pos ha] at h
            rw [if_neg (by simpa using ha)]
            exact h
          rw [if_neg ha] at h
          rw [if_pos (by simpa using ha)]
          exact h
      rw [if_pos (Or.inl he)]; simp only [if_neg he]; exact hbad
  simp only [if_neg k1]
  by_cases k2 : a1 = 2
  · simp only [if_pos k2, empty_eq, Option.bind_some]
    by_cases hz : vars.length = 0 ∧ rows.length = 0
    · simp only [decide_eq_true hz, if_true, hz.1, hz.2, true_and]
      by_cases he : er = 0
      · simp only [if_pos he]; exact Ev.now _
      simp only [if_neg he]; exact Ev.now _
    simp only [decide_eq_false hz, Bool.false_eq_true, if_false, if_neg (fun h : vars.length = 0 ∧ rows.length = 0 ∧ er = 0 => hz ⟨h.1, h.2.1⟩)]; exact Ev.now _
  simp only [if_neg k2]
  have k3 : a1 = 3 := by unfold badR at hb; omega
  simp only [if_pos k3, empty_eq, Option.bind_some]
  by_cases hz : vars.length = 0 ∧ rows.length = 0
  · simp only [decide_eq_true hz, if_true, hz.1, hz.2, true_and]
    cases tr with
    | true => simp only [if_true, Bool.true_eq_false, if_false]; exact Ev.now _
    | false => simp only [Bool.false_eq_true, if_false, if_true]; exact Ev.now _
  simp only [decide_eq_false hz, Bool.false_eq_true, if_false, if_neg (fun h : vars.length = 0 ∧ rows.length = 0 ∧ tr = false => hz ⟨h.1, h.2.1⟩)]; exact Ev.now _
end Go.Proofs.YtgabadlneeffkaaGreatDoor.G

/- What the reference's functions of terms come to: the plain words of St.lean. -/
namespace Go.Proofs.YtgabadlneeffkaaGreatDoor.G
open Go.RowKit Go.Lib Go.Proofs.YtgabadlneeffkaaGreatDoor Go.Proofs.YtgabadlneeffkaaGreatDoorW.PrintWords Go.Proofs.YtgabadlneeffkaaGreatDoorW.PrintLast
set_option linter.unusedVariables false
set_option linter.unusedSimpArgs false

theorem btw_eq (a f t : Int) : legationref01_Between.f a f t = some (decide (f ≤ a) && decide (a ≤ t)) := by
  unfold legationref01_Between.f
  by_cases h : a ≥ f
  · rw [if_pos h, decide_eq_true (show f ≤ a from h)]; simp
  rw [if_neg h, decide_eq_false (show ¬ f ≤ a from h)]; simp
theorem is_ev (c : UInt8) : Ev (fun k => legationref01_Is.f k (c.toNat : Int) (⟨#[60, 62, 34, 123, 125, 124, 94, 96, 92]⟩ : ByteArray)) ([60, 62, 34, 123, 125, 124, 94, 96, 92].contains c.toNat) := by
  refine Ev.of (k := 12) (fun k => legationref01_Is.mono _ _ k) ?_
  exact forall_byte (P := fun c => legationref01_Is.f 12 (c.toNat : Int) (⟨#[60, 62, 34, 123, 125, 124, 94, 96, 92]⟩ : ByteArray) = some ([60, 62, 34, 123, 125, 124, 94, 96, 92].contains c.toNat)) (by decide +kernel) c

theorem all_loop (s : ByteArray) (hs : s.size ≤ 9223372036854775807) (n : Int) : ∀ (r : List UInt8) (i : Nat), s.data.toList.drop i = r → i ≤ s.size →
    Ev (fun k => legationref01_All.l0 k s n (i : Int)) (r.all (kindB n)) := by
  intro r
  induction r with
  | nil =>
    intro i hd hi
    have := size_of_drop hd
    refine Ev.step (fun k => by rw [legationref01_All.l0]) ?_
    simp only [if_neg (show ¬ ((i : Int) < (s.size : Int)) by omega)]
    exact Ev.now _
  | cons c r ih =>
    intro i hd hi
    obtain ⟨hb, his, hr⟩ := bt_of_drop hd
    refine Ev.step (fun k => by rw [legationref01_All.l0]) ?_
    simp only [if_pos (show (i : Int) < (s.size : Int) by omega), if_pos (show (0 : Int) ≤ (i : Int) by omega), hb, wrap_succ (show i < 9223372036854775807 by omega), btw_eq, Option.bind_some]
    have h := ih (i + 1) hr (by omega)
    rw [List.all_cons]
    by_cases n1 : n = 1
    · subst n1
      simp only [if_true]
      have e : kindB 1 c = (decide (33 ≤ c.toNat) && decide (c.toNat ≤ 126) && !([60, 62, 34, 123, 125, 124, 94, 96, 92].contains c.toNat)) := rfl
      rw [e]
      have e2 : (decide ((33 : Int) ≤ (c.toNat : Int)) && decide ((c.toNat : Int) ≤ 126)) = (decide (33 ≤ c.toNat) && decide (c.toNat ≤ 126)) := by
        rw [Bool.eq_iff_iff]; simp only [Bool.and_eq_true, decide_eq_true_eq]; omega
      rw [e2]
      cases (decide (33 ≤ c.toNat) && decide (c.toNat ≤ 126)) with
      | false => simp only [Bool.false_eq_true, if_false, Bool.false_and]; exact Ev.now _
      | true =>
        simp only [if_true, Bool.true_and]
        refine Ev.bind (is_ev c) ?_
        cases ([60, 62, 34, 123, 125, 124, 94, 96, 92].contains c.toNat) with
        | true => simp only [if_true, Bool.not_true, Bool.false_and]; exact Ev.now _
        | false => simp only [Bool.false_eq_true, if_false, Bool.not_false, Bool.true_and]; exact h
    simp only [if_neg n1]
    by_cases n2 : n = 2
    · subst n2
      simp only [if_true]
      by_cases h1 : 32 ≤ c.toNat ∧ c.toNat ≤ 126
      · have e : kindB 2 c = true := by simp [kindB, textB, h1.1, h1.2]
        rw [e, decide_eq_true (show (32 : Int) ≤ (c.toNat : Int) by omega), decide_eq_true (show (c.toNat : Int) ≤ 126 by omega)]
        simp only [Bool.and_true, if_true, Bool.true_and]; exact h
      have e1 : (decide ((32 : Int) ≤ (c.toNat : Int)) && decide ((c.toNat : Int) ≤ 126)) = false := by
        rw [Bool.eq_false_iff]; simp only [ne_eq, Bool.and_eq_true, decide_eq_true_eq]; omega
      simp only [e1, Bool.false_eq_true, if_false]
      by_cases h2 : c.toNat = 10
      · have e : kindB 2 c = true := by simp [kindB, textB, h2]
        simp only [e, if_pos (show (c.toNat : Int) = 10 by omega), Bool.true_and]; exact h
      simp only [if_neg (show ¬ ((c.toNat : Int) = 10) by omega)]
      by_cases h3 : c.toNat = 9
      · have e : kindB 2 c = true := by simp [kindB, textB, h3]
        simp only [e, if_pos (show (c.toNat : Int) = 9 by omega), Bool.true_and]; exact h
      have e : kindB 2 c = false := by simp [kindB, textB, h2, h3]; omega
      simp only [e, if_neg (show ¬ ((c.toNat : Int) = 9) by omega), Bool.false_and]; exact Ev.now _
    simp only [if_neg n2]
    by_cases n3 : n = 3
    · subst n3
      simp only [if_true]
      have e : kindB 3 c = nameB c := rfl
      rw [e]
      have q1 : (decide ((97 : Int) ≤ (c.toNat : Int)) && decide ((c.toNat : Int) ≤ 122)) = (decide (97 ≤ c.toNat) && decide (c.toNat ≤ 122)) := by
        rw [Bool.eq_iff_iff]; simp only [Bool.and_eq_true, decide_eq_true_eq]; omega
      have q2 : (decide ((65 : Int) ≤ (c.toNat : Int)) && decide ((c.toNat : Int) ≤ 90)) = (decide (65 ≤ c.toNat) && decide (c.toNat ≤ 90)) := by
        rw [Bool.eq_iff_iff]; simp only [Bool.and_eq_true, decide_eq_true_eq]; omega
      have q3 : (decide ((48 : Int) ≤ (c.toNat : Int)) && decide ((c.toNat : Int) ≤ 57)) = isDig c := by
        unfold isDig
        rw [Bool.eq_iff_iff]; simp only [Bool.and_eq_true, decide_eq_true_eq]; omega
      rw [q1, q2, q3]
      unfold nameB isLet
      cases (decide (97 ≤ c.toNat) && decide (c.toNat ≤ 122)) with
      | true => simp only [if_true, Bool.true_or, Bool.true_and]; exact h
      | false =>
        simp only [Bool.false_eq_true, if_false, Bool.false_or]
        cases (decide (65 ≤ c.toNat) && decide (c.toNat ≤ 90)) with
        | true => simp only [if_true, Bool.true_or, Bool.true_and]; exact h
        | false =>
          simp only [Bool.false_eq_true, if_false, Bool.false_or]
          cases isDig c with
          | true => simp only [if_true, Bool.true_or, Bool.true_and]; exact h
          | false =>
            simp only [Bool.false_eq_true, if_false, Bool.false_or]
            by_cases h95 : c.toNat = 95
            · simp only [h95, if_pos (show ((95 : Nat) : Int) = 95 from rfl), beq_self_eq_true, Bool.true_and]; exact h
            simp only [if_neg (show ¬ ((c.toNat : Int) = 95) by omega), beq_eq_false_iff_ne.mpr h95, Bool.false_and]; exact Ev.now _
    simp only [if_neg n3]
    by_cases n4 : n = 4
    · subst n4
      simp only [if_true]
      have e : kindB 4 c = (decide (97 ≤ c.toNat) && decide (c.toNat ≤ 122)) := rfl
      have q1 : (decide ((97 : Int) ≤ (c.toNat : Int)) && decide ((c.toNat : Int) ≤ 122)) = (decide (97 ≤ c.toNat) && decide (c.toNat ≤ 122)) := by
        rw [Bool.eq_iff_iff]; simp only [Bool.and_eq_true, decide_eq_true_eq]; omega
      rw [e, q1]
      cases (decide (97 ≤ c.toNat) && decide (c.toNat ≤ 122)) with
      | true => simp only [if_true, Bool.true_and]; exact h
      | false => simp only [Bool.false_eq_true, if_false, Bool.false_and]; exact Ev.now _
    simp only [if_neg n4, show kindB n c = false by simp [kindB, n1, n2, n3, n4], Bool.false_and]
    exact Ev.now _
theorem all_ev (s : ByteArray) (hs : s.size ≤ 9223372036854775807) (n : Int) : Ev (fun k => legationref01_All.f k s n) (s.data.toList.all (kindB n)) := by
  unfold legationref01_All.f
  exact all_loop s hs n _ 0 rfl (by omega)
theorem rIri_ev (s : ByteArray) : Ev (fun k => legationref01_IsIri.f k s) (okIri s.data.toList) := by
  unfold legationref01_IsIri.f okIri
  rw [size_toList]
  by_cases h1 : 1 ≤ s.size
  · have e0 : s.data.toList.isEmpty = false := by
      rw [← size_toList] at h1
      cases h : s.data.toList with
      | nil => rw [h] at h1; simp at h1
      | cons a l => rfl
    simp only [if_pos (show (s.size : Int) ≥ 1 by omega), e0, Bool.not_false, Bool.true_and]
    by_cases h2 : s.size ≤ 4096
    · simp only [if_pos (show (s.size : Int) ≤ 4096 by omega), decide_eq_true h2, Bool.true_and]
      exact Ev.bind (all_ev s (by omega) 1) (Ev.now _)
    simp only [if_neg (show ¬ ((s.size : Int) ≤ 4096) by omega), decide_eq_false h2, Bool.false_and]
    exact Ev.now _
  have e0 : s.data.toList.isEmpty = true := by
    rw [← size_toList] at h1
    cases h : s.data.toList with
    | nil => rfl
    | cons a l => rw [h] at h1; simp at h1
  simp only [if_neg (show ¬ ((s.size : Int) ≥ 1) by omega), e0, Bool.not_true, Bool.false_and]
  exact Ev.now _
theorem rLang_ev (s : ByteArray) : Ev (fun k => legationref01_IsLang.f k s) (okLang s.data.toList) := by
  unfold legationref01_IsLang.f okLang
  rw [size_toList]
  by_cases h1 : 1 ≤ s.size
  · have e0 : s.data.toList.isEmpty = false := by
      rw [← size_toList] at h1
      cases h : s.data.toList with
      | nil => rw [h] at h1; simp at h1
      | cons a l => rfl
    simp only [if_pos (show (s.size : Int) ≥ 1 by omega), e0, Bool.not_false, Bool.true_and]
    by_cases h2 : s.size ≤ 8
    · simp only [if_pos (show (s.size : Int) ≤ 8 by omega), decide_eq_true h2, Bool.true_and]
      exact Ev.bind (all_ev s (by omega) 4) (Ev.now _)
    simp only [if_neg (show ¬ ((s.size : Int) ≤ 8) by omega), decide_eq_false h2, Bool.false_and]
    exact Ev.now _
  have e0 : s.data.toList.isEmpty = true := by
    rw [← size_toList] at h1
    cases h : s.data.toList with
    | nil => rfl
    | cons a l => rw [h] at h1; simp at h1
  simp only [if_neg (show ¬ ((s.size : Int) ≥ 1) by omega), e0, Bool.not_true, Bool.false_and]
  exact Ev.now _
theorem rName_ev (s : ByteArray) : Ev (fun k => legationref01_IsName.f k s) (okName s.data.toList) := by
  unfold legationref01_IsName.f
  rw [okName_all, size_toList]
  by_cases h1 : 1 ≤ s.size
  · simp only [if_pos (show (s.size : Int) ≥ 1 by omega), decide_eq_true h1, Bool.true_and]
    by_cases h2 : s.size ≤ 32
    · simp only [if_pos (show (s.size : Int) ≤ 32 by omega), decide_eq_true h2, Bool.true_and]
      refine Ev.bind (all_ev s (by omega) 3) ?_
      rw [show (kindB 3) = nameB from rfl]
      cases s.data.toList.all nameB with
      | false => simp only [Bool.false_eq_true, if_false, Bool.false_and]; exact Ev.now _
      | true =>
        simp only [if_true, Bool.true_and, if_pos (show (0 : Int) < (s.size : Int) by omega)]
        cases hl : s.data.toList with
        | nil => rw [← size_toList, hl] at h1; simp at h1
        | cons c r =>
          have hb : bt s 0 = (c.toNat : Int) := (bt_of_drop (s := s) (i := 0) (by rw [List.drop_zero]; exact hl)).1
          simp only [hb, btw_eq, Option.bind_some]
          have q1 : (decide ((97 : Int) ≤ (c.toNat : Int)) && decide ((c.toNat : Int) ≤ 122)) = (decide (97 ≤ c.toNat) && decide (c.toNat ≤ 122)) := by
            rw [Bool.eq_iff_iff]; simp only [Bool.and_eq_true, decide_eq_true_eq]; omega
          have q2 : (decide ((65 : Int) ≤ (c.toNat : Int)) && decide ((c.toNat : Int) ≤ 90)) = (decide (65 ≤ c.toNat) && decide (c.toNat ≤ 90)) := by
            rw [Bool.eq_iff_iff]; simp only [Bool.and_eq_true, decide_eq_true_eq]; omega
          rw [q1, q2]
          unfold isLet
          cases (decide (97 ≤ c.toNat) && decide (c.toNat ≤ 122)) <;> simp only [Bool.false_eq_true, if_false, if_true, Bool.true_or, Bool.false_or] <;> exact Ev.now _
    simp only [if_neg (show ¬ ((s.size : Int) ≤ 32) by omega), decide_eq_false h2, Bool.false_and]
    exact Ev.now _
  simp only [if_neg (show ¬ ((s.size : Int) ≥ 1) by omega), decide_eq_false h1, Bool.false_and]
  exact Ev.now _
theorem rright_ev (k0 : Int) (a b c : ByteArray) : Ev (fun k => legationref01_Right.f k k0 a b c) (okTm (TT k0 a b c)) := by
  unfold legationref01_Right.f okTm TT
  simp only [tl]
  by_cases h2 : k0 = 2
  · subst h2
    simp only [if_true]
    unfold okText
    rw [size_toList]
    by_cases hz : a.size ≤ 4096
    · simp only [if_pos (show (a.size : Int) ≤ 4096 by omega), decide_eq_true hz, Bool.true_and]
      refine Ev.bind (all_ev a (by omega) 2) ?_
      rw [show (kindB 2) = textB from rfl]
      cases a.data.toList.all textB with
      | false => simp only [Bool.false_eq_true, if_false, Bool.false_and]; exact Ev.now _
      | true =>
        simp only [if_true, Bool.true_and]
        by_cases hb : b.data.toList = []
        · simp only [hb, if_true, List.isEmpty_nil, Bool.true_or, Bool.true_and]
          by_cases hc : c.data.toList = []
          · simp only [hc, if_true, List.isEmpty_nil, Bool.true_or]; exact Ev.now _
          simp only [if_neg hc, ne_empty hc, Bool.false_or]
          exact Ev.bind (rLang_ev c) (Ev.now _)
        simp only [if_neg hb, ne_empty hb, Bool.false_or, Bool.false_and]
        refine Ev.bind (rIri_ev b) ?_
        cases okIri b.data.toList with
        | false => simp only [Bool.false_eq_true, if_false, Bool.false_and]; exact Ev.now _
        | true =>
          simp only [if_true, Bool.true_and, Bool.or_false]
          by_cases hc : c.data.toList = []
          · simp only [hc, if_true, List.isEmpty_nil]; exact Ev.now _
          simp only [if_neg hc, ne_empty hc]; exact Ev.now _
    simp only [if_neg (show ¬ ((a.size : Int) ≤ 4096) by omega), decide_eq_false hz, Bool.false_and]
    exact Ev.now _
  simp only [if_neg h2]
  have hj : ∀ x : Bool, x = !(b.data.toList.isEmpty && c.data.toList.isEmpty) → Ev (fun k => legationref01_Right.j0 k x k0 a b c) (b.data.toList.isEmpty && c.data.toList.isEmpty && (if k0 = 0 then a.data.toList.isEmpty else if k0 = 1 then okIri a.data.toList else if k0 = 3 ∨ k0 = 4 then okName a.data.toList else false)) := by
    intro x hx
    refine Ev.step (fun k => by rw [legationref01_Right.j0]) ?_
    subst hx
    cases (b.data.toList.isEmpty && c.data.toList.isEmpty) with
    | false => simp only [Bool.not_false, if_true, Bool.false_and]; exact Ev.now _
    | true =>
      simp only [Bool.not_true, Bool.false_eq_true, if_false, Bool.true_and, tl]
      by_cases h0 : k0 = 0
      · simp only [if_pos h0]
        have e : (a.data.toList == ([] : List UInt8)) = a.data.toList.isEmpty := by cases a.data.toList <;> rfl
        rw [e]
        exact Ev.now _
      simp only [if_neg h0]
      by_cases h1 : k0 = 1
      · simp only [if_pos h1]
        exact Ev.bind (rIri_ev a) (Ev.now _)
      simp only [if_neg h1]
      by_cases h3 : k0 = 3
      · simp only [if_pos h3, if_pos (Or.inl h3 : k0 = 3 ∨ k0 = 4)]
        exact Ev.bind (rName_ev a) (Ev.now _)
      simp only [if_neg h3]
      by_cases h4 : k0 = 4
      · simp only [if_pos h4, if_pos (Or.inr h4 : k0 = 3 ∨ k0 = 4)]
        exact Ev.bind (rName_ev a) (Ev.now _)
      simp only [if_neg h4, if_neg (show ¬ (k0 = 3 ∨ k0 = 4) by omega)]
      exact Ev.now _
  by_cases hb : b.data.toList = []
  · simp only [if_pos hb]
    exact hj _ (by rw [hb]; cases c.data.toList <;> simp)
  simp only [if_neg hb]
  exact hj _ (by rw [ne_empty hb]; rfl)
end Go.Proofs.YtgabadlneeffkaaGreatDoor.G

/- What the references' functions of tables and replies come to. -/
namespace Go.Proofs.YtgabadlneeffkaaGreatDoor.G
open Go.RowKit Go.Lib Go.Proofs.YtgabadlneeffkaaGreatDoor Go.Proofs.YtgabadlneeffkaaGreatDoorW.PrintWords Go.Proofs.YtgabadlneeffkaaGreatDoorW.PrintLast
set_option linter.unusedVariables false
set_option linter.unusedSimpArgs false

theorem in_loop (x : List ByteArray) (hx : x.length ≤ 9223372036854775807) (a : ByteArray) : ∀ (r : List ByteArray) (i : Nat), x.drop i = r →
    Ev (fun k => legationref03_In.l0 k x a (i : Int)) ((B r).contains a.data.toList) := by
  intro r
  induction r with
  | nil =>
    intro i hd
    have := len_of_drop hd
    refine Ev.step (fun k => by rw [legationref03_In.l0]) ?_
    simp only [if_neg (show ¬ ((i : Int) < (x.length : Int)) by omega)]
    exact Ev.now _
  | cons c r ih =>
    intro i hd
    obtain ⟨hg, hi, hr, _⟩ := get_of_drop hd ByteArray.empty
    refine Ev.step (fun k => by rw [legationref03_In.l0]) ?_
    have e : rdOf ByteArray.empty x (i : Int) = c := hg
    simp only [if_pos (show (i : Int) < (x.length : Int) by omega), if_pos (show (0 : Int) ≤ (i : Int) by omega), e, wrap_succ (show i < 9223372036854775807 by omega), tl]
    rw [show B (c :: r) = c.data.toList :: B r from rfl, List.contains_cons]
    by_cases h : c.data.toList = a.data.toList
    · simp only [if_pos h, h, beq_self_eq_true, Bool.true_or]; exact Ev.now _
    simp only [if_neg h, beq_eq_false_iff_ne.mpr (Ne.symm h), Bool.false_or]; exact ih (i + 1) hr
theorem in_ev (x : List ByteArray) (hx : x.length ≤ 9223372036854775807) (a : ByteArray) : Ev (fun k => legationref03_In.f k x a) ((B x).contains a.data.toList) := by
  unfold legationref03_In.f
  exact in_loop x hx a x 0 rfl

theorem rcells_loop (vars : List ByteArray) (rows : List (List S43)) (i : Nat) (row : List S43) (hg : rd_L3 rows (i : Int) = row) (hrow : row.length ≤ 9223372036854775807) (hil : i < rows.length) (hi : i < 9223372036854775807) (v : Bool)
    (hn : Ev (fun k => legationref11_Right.l1 k ((i + 1 : Nat) : Int) vars rows) v) : ∀ (r : List S43) (j : Nat), row.drop j = r →
    Ev (fun k => legationref11_Right.l2 k (i : Int) (j : Int) vars rows) (r.all cellOK && v) := by
  intro r
  induction r with
  | nil =>
    intro j hd
    have := len_of_drop hd
    refine Ev.step (fun k => by rw [legationref11_Right.l2]) ?_
    simp only [if_pos (show (0 : Int) ≤ (i : Int) by omega), if_pos (show (i : Int) < (rows.length : Int) by omega), hg, if_neg (show ¬ ((j : Int) < (row.length : Int)) by omega), wrap_succ hi]
    exact hn
  | cons c r ih =>
    intro j hd
    obtain ⟨hg2, hj, hr, _⟩ := get_of_drop hd z43
    refine Ev.step (fun k => by rw [legationref11_Right.l2]) ?_
    have e : rd_T43 row (j : Int) = c := hg2
    simp only [if_pos (show (0 : Int) ≤ (i : Int) by omega), if_pos (show (i : Int) < (rows.length : Int) by omega), hg, if_pos (show (j : Int) < (row.length : Int) by omega), if_pos (show (0 : Int) ≤ (j : Int) by omega), e, wrap_succ (show j < 9223372036854775807 by omega)]
    rw [List.all_cons, cellOK]
    refine Ev.bind (rright_ev c.f0 c.f1 c.f2 c.f3) ?_
    rw [show TT c.f0 c.f1 c.f2 c.f3 = T c from rfl]
    cases okTm (T c) with
    | false => simp only [Bool.false_eq_true, if_false, Bool.and_false, Bool.false_and]; exact Ev.now _
    | true =>
      simp only [if_true, Bool.and_true]
      by_cases h4 : c.f0 = 4
      · simp only [if_pos h4, h4, beq_self_eq_true, Bool.not_true, Bool.false_and]; exact Ev.now _
      simp only [if_neg h4, beq_eq_false_iff_ne.mpr h4, Bool.not_false, Bool.true_and]; exact ih (j + 1) hr
theorem rrows_loop (vars : List ByteArray) (hv : vars.length ≤ 32) (rows : List (List S43)) (hrows : rows.length ≤ 4096) : ∀ (r : List (List S43)) (i : Nat), rows.drop i = r →
    Ev (fun k => legationref11_Right.l1 k (i : Int) vars rows) (r.all (rowOK vars.length)) := by
  intro r
  induction r with
  | nil =>
    intro i hd
    have := len_of_drop hd
    refine Ev.step (fun k => by rw [legationref11_Right.l1]) ?_
    simp only [if_neg (show ¬ ((i : Int) < (rows.length : Int)) by omega)]
    exact Ev.now _
  | cons c r ih =>
    intro i hd
    obtain ⟨hg, hi, hr, _⟩ := get_of_drop hd ([] : List S43)
    refine Ev.step (fun k => by rw [legationref11_Right.l1]) ?_
    have e : rd_L3 rows (i : Int) = c := hg
    simp only [if_pos (show (i : Int) < (rows.length : Int) by omega), if_pos (show (0 : Int) ≤ (i : Int) by omega), e]
    rw [List.all_cons, rowOK]
    by_cases hl : c.length = vars.length
    · simp only [if_pos (show (c.length : Int) = (vars.length : Int) by omega), hl, beq_self_eq_true, Bool.true_and]
      exact rcells_loop vars rows i c e (by omega) hi (by omega) _ (ih (i + 1) hr) c 0 rfl
    simp only [if_neg (show ¬ ((c.length : Int) = (vars.length : Int)) by omega), beq_eq_false_iff_ne.mpr hl, Bool.false_and]
    exact Ev.now _
theorem rnames_loop (vars : List ByteArray) (hv : vars.length ≤ 32) (rows : List (List S43)) (hrows : rows.length ≤ 4096) : ∀ (r : List ByteArray) (i : Nat), vars.drop i = r →
    Ev (fun k => legationref11_Right.l0 k (i : Int) vars rows) (nmOK (B (vars.take i)) (B r) && rows.all (rowOK vars.length)) := by
  intro r
  induction r with
  | nil =>
    intro i hd
    have := len_of_drop hd
    refine Ev.step (fun k => by rw [legationref11_Right.l0]) ?_
    simp only [if_neg (show ¬ ((i : Int) < (vars.length : Int)) by omega)]
    rw [show B [] = [] from rfl, nmOK, Bool.true_and]
    exact rrows_loop vars hv rows hrows rows 0 rfl
  | cons c r ih =>
    intro i hd
    obtain ⟨hg, hi, hr, ht⟩ := get_of_drop hd ByteArray.empty
    refine Ev.step (fun k => by rw [legationref11_Right.l0]) ?_
    have e : rdOf ByteArray.empty vars (i : Int) = c := hg
    simp only [if_pos (show (i : Int) < (vars.length : Int) by omega), if_pos (show (0 : Int) ≤ (i : Int) by omega), if_pos (show (i : Int) ≤ (vars.length : Int) by omega), e, wrap_succ (show i < 9223372036854775807 by omega), Int.toNat_natCast]
    rw [show B (c :: r) = c.data.toList :: B r from rfl, nmOK]
    refine Ev.bind (rName_ev c) ?_
    cases okName c.data.toList with
    | false => simp only [Bool.false_eq_true, if_false, Bool.false_and]; exact Ev.now _
    | true =>
      simp only [if_true, Bool.true_and]
      refine Ev.bind (in_ev (vars.take i) (by rw [List.length_take]; omega) c) ?_
      cases (B (vars.take i)).contains c.data.toList with
      | true => simp only [if_true, Bool.not_true, Bool.false_and]; exact Ev.now _
      | false =>
        simp only [Bool.false_eq_true, if_false, Bool.not_false, Bool.true_and]
        have h := ih (i + 1) hr
        rw [ht] at h
        rw [show B (vars.take i) ++ [c.data.toList] = B (vars.take i ++ [c]) by simp [B]]
        exact h
theorem tabright_ev (vars : List ByteArray) (rows : List (List S43)) : Ev (fun k => legationref11_Right.f k vars rows) (tabOK vars rows) := by
  unfold legationref11_Right.f tabOK
  by_cases h1 : vars.length ≤ 32
  · simp only [if_neg (show ¬ ((vars.length : Int) > 32) by omega), decide_eq_true h1, Bool.true_and]
    refine Ev.step (fun k => by rw [legationref11_Right.j0]) ?_
    by_cases h2 : rows.length ≤ 4096
    · simp only [decide_eq_false (show ¬ ((rows.length : Int) > 4096) by omega), Bool.false_eq_true, if_false, decide_eq_true h2, Bool.true_and]
      exact rnames_loop vars h1 rows h2 vars 0 rfl
    simp only [decide_eq_true (show (rows.length : Int) > 4096 by omega), if_true, decide_eq_false h2, Bool.false_and]
    exact Ev.now _
  simp only [if_pos (show (vars.length : Int) > 32 by omega), decide_eq_false h1, Bool.false_and]
  refine Ev.step (fun k => by rw [legationref11_Right.j0]) ?_
  simp only [if_true]
  exact Ev.now _

theorem rright_loop (vars : List ByteArray) (rows : List (List S43)) (hr : rows.length ≤ 9223372036854775807) : ∀ (r : List (List S43)) (i : Nat), rows.drop i = r →
    Ev (fun k => legationref17_rightRows.l0 k (i : Int) vars rows) (r.all (fun r => tabOK vars [r])) := by
  intro r
  induction r with
  | nil =>
    intro i hd
    have := len_of_drop hd
    refine Ev.step (fun k => by rw [legationref17_rightRows.l0]) ?_
    simp only [if_neg (show ¬ ((i : Int) < (rows.length : Int)) by omega)]
    exact Ev.now _
  | cons c r ih =>
    intro i hd
    obtain ⟨_, hi, hr, ht⟩ := get_of_drop hd ([] : List S43)
    refine Ev.step (fun k => by rw [legationref17_rightRows.l0]) ?_
    have e : (rows.take (i + 1)).drop i = [c] := by
      rw [ht, List.drop_left' (by rw [List.length_take]; omega)]
    simp only [if_pos (show (i : Int) < (rows.length : Int) by omega), if_pos (show (0 : Int) ≤ (i : Int) by omega), wrap_succ (show i < 9223372036854775807 by omega), if_pos (show (i : Int) ≤ ((i + 1 : Nat) : Int) by omega), if_pos (show ((i + 1 : Nat) : Int) ≤ (rows.length : Int) by omega), Int.toNat_natCast, e]
    refine Ev.bind (tabright_ev vars [c]) ?_
    rw [List.all_cons]
    cases tabOK vars [c] with
    | false => simp only [Bool.false_and, Bool.false_eq_true, if_false]; exact Ev.now _
    | true => simp only [if_true, Bool.true_and]; exact ih (i + 1) hr
theorem rrows_ev (vars : List ByteArray) (rows : List (List S43)) (hr : rows.length ≤ 9223372036854775807) : Ev (fun k => legationref17_rightRows.f k vars rows) (rightR vars rows) := by
  unfold legationref17_rightRows.f rightR
  refine Ev.bind (tabright_ev vars []) ?_
  cases tabOK vars [] with
  | false => simp only [Bool.false_and, Bool.false_eq_true, if_false]; exact Ev.now _
  | true => simp only [if_true, Bool.true_and]; exact rright_loop vars rows hr rows 0 rfl
theorem rchk_ev (a0 a1 : Int) (vars : List ByteArray) (rows : List (List S43)) (hr : rows.length ≤ 9223372036854775807) (tr : Bool) (er : Int) : Ev (fun k => legationref17_Check.f k a0 a1 vars rows tr er) (chk a0 a1 vars rows tr er) := by
  unfold legationref17_Check.f
  refine bad_j (fun b k => legationref17_Check.j0 k b a0 a1 vars rows tr er) a0 a1 er _ ?_
  refine Ev.step (fun k => by rw [legationref17_Check.j0]) ?_
  by_cases hb : badR a0 a1 er
  · unfold chk
    simp only [decide_eq_true hb, if_true, if_pos hb]; exact Ev.now _
  simp only [decide_eq_false hb, Bool.false_eq_true, if_false]
  have j2t : Ev (fun k => legationref17_Check.j2 k true a0 a1 vars rows tr er) 2 := by
    refine Ev.step (fun k => by rw [legationref17_Check.j2]) ?_
    simp only [if_true]; exact Ev.now _
  have j2f : Ev (fun k => legationref17_Check.j2 k false a0 a1 vars rows tr er) (if rows.length > 1024 then 3 else 0) := by
    refine Ev.step (fun k => by rw [legationref17_Check.j2]) ?_
    simp only [Bool.false_eq_true, if_false]
    by_cases h : rows.length > 1024
    · simp only [if_pos (show (rows.length : Int) > 1024 by omega), if_pos h]; exact Ev.now _
    simp only [if_neg (show ¬ ((rows.length : Int) > 1024) by omega), if_neg h]; exact Ev.now _
  have j1 : ∀ x : Bool, x = decide (vars.length = 0 ∧ rows.length = 0) → Ev (fun k => legationref17_Check.j1 k x a0 a1 vars rows tr er) (chk a0 a1 vars rows tr er) := by
    intro x hx
    refine Ev.step (fun k => by rw [legationref17_Check.j1]) ?_
    unfold chk
    simp only [if_neg hb]
    by_cases k1 : a1 = 1
    · simp only [if_pos k1, if_neg (show ¬ (a1 = 2) by omega), if_neg (show ¬ (a1 = 3) by omega)]
      cases tr with
      | true => simp only [if_true, true_or]; exact j2t
      | false =>
        simp only [Bool.false_eq_true, if_false, false_or]
        by_cases he : er = 0
        · subst he
          simp only [if_true, not_true, false_or]
          refine Ev.bind (rrows_ev vars rows hr) ?_
          cases rightR vars rows with
          | true => simp only [if_true, not_true, if_false]; exact j2f
          | false => simp only [Bool.false_eq_true, if_false, not_false_iff, if_true, or_true]; exact j2t
        rw [if_pos (Or.inl he)]; simp only [if_neg he]; exact j2t
    simp only [if_neg k1]
    by_cases k2 : a1 = 2
    · simp only [if_pos k2, if_neg (show ¬ (a1 = 3) by omega)]
      by_cases hz : vars.length = 0 ∧ rows.length = 0
      · rw [decide_eq_true hz] at hx
        subst hx
        simp only [if_true, hz.1, hz.2, true_and]
        by_cases he : er = 0
        · simp only [if_pos he]
          rw [if_neg (by omega)] at j2f
          exact j2f
        simp only [if_neg he]; exact j2t
      rw [decide_eq_false hz] at hx
      subst hx
      simp only [Bool.false_eq_true, if_false, if_neg (fun h : vars.length = 0 ∧ rows.length = 0 ∧ er = 0 => hz ⟨h.1, h.2.1⟩)]; exact j2t
    simp only [if_neg k2]
    have k3 : a1 = 3 := by unfold badR at hb; omega
    simp only [if_pos k3]
    by_cases hz : vars.length = 0 ∧ rows.length = 0
    · rw [decide_eq_true hz] at hx
      subst hx
      simp only [if_true, hz.1, hz.2, true_and]
      cases tr with
      | true => simp only [Bool.true_eq_false, if_false]; exact j2t
      | false =>
        simp only [if_true]
        rw [if_neg (by omega)] at j2f
        exact j2f
    rw [decide_eq_false hz] at hx
    subst hx
    simp only [Bool.false_eq_true, if_false, if_neg (fun h : vars.length = 0 ∧ rows.length = 0 ∧ tr = false => hz ⟨h.1, h.2.1⟩)]; exact j2t
  by_cases hv : vars.length = 0
  · simp only [if_pos (show (vars.length : Int) = 0 by omega)]
    refine j1 _ ?_
    rw [Bool.eq_iff_iff]
    simp only [beq_iff_eq, decide_eq_true_eq]
    omega
  simp only [if_neg (show ¬ ((vars.length : Int) = 0) by omega)]
  exact j1 _ (by rw [decide_eq_false (fun h => hv h.1)])
end Go.Proofs.YtgabadlneeffkaaGreatDoor.G

/- What term.Text and result.Put come to. -/
namespace Go.Proofs.YtgabadlneeffkaaGreatDoor.G
open Go.RowKit Go.Lib Go.Proofs.YtgabadlneeffkaaGreatDoor Go.Proofs.YtgabadlneeffkaaGreatDoorW.PrintWords Go.Proofs.YtgabadlneeffkaaGreatDoorW.PrintLast
set_option linter.unusedVariables false
set_option linter.unusedSimpArgs false

theorem ba_ext {x y : ByteArray} (h : x.data.toList = y.data.toList) : x = y := by rw [← ofL_data x, ← ofL_data y, h]
theorem app_data (a b : ByteArray) : (a ++ b).data.toList = a.data.toList ++ b.data.toList := by
  conv => lhs; rw [← ofL_data a, ← ofL_data b, ofL_append, ofL_toList]
theorem esc_len (l : List UInt8) : (esc l).length ≤ 2 * l.length := by
  induction l with
  | nil => simp [esc]
  | cons b l ih =>
    rw [show esc (b :: l) = escB b ++ esc l from rfl, List.length_append, List.length_cons]
    have : (escB b).length ≤ 2 := by
      unfold escB
      repeat' split
      all_goals simp
    omega
theorem quoted_loop (s : ByteArray) (hs : s.size ≤ 4096) : ∀ (r : List UInt8) (i : Nat) (acc : List UInt8), s.data.toList.drop i = r → i ≤ s.size → acc.length ≤ 1 + 2 * i →
    Ev (fun k => term_quoted.l0 k s (nat acc) (i : Int)) (ofL (acc ++ esc r ++ [34])) := by
  intro r
  induction r with
  | nil =>
    intro i acc hd hi ha
    have := size_of_drop hd
    refine Ev.step (fun k => by rw [term_quoted.l0]) ?_
    simp only [if_neg (show ¬ ((i : Int) < (s.size : Int)) by omega), if_pos (show (nat acc).length < 140737488355328 by rw [nat_length]; omega)]
    rw [show nat acc ++ [34] = nat (acc ++ [34]) by rw [nat_append]; rfl, strOfNums_nat, show esc [] = [] from rfl, List.append_nil]
    exact Ev.now _
  | cons c r ih =>
    intro i acc hd hi ha
    obtain ⟨hb, his, hr⟩ := bt_of_drop hd
    have two : ∀ d : UInt8, escB c = [92, d] → Ev (fun k => if (nat acc).length + ([92, (d.toNat : Int)] : List Int).length < 140737488355328 then term_quoted.l0 k s (nat acc ++ [92, (d.toNat : Int)]) ((i + 1 : Nat) : Int) else none) (ofL (acc ++ esc (c :: r) ++ [34])) := by
      intro d hd2
      simp only [if_pos (show (nat acc).length + ([92, (d.toNat : Int)] : List Int).length < 140737488355328 by rw [nat_length]; simp; omega)]
      have h := ih (i + 1) (acc ++ [92, d]) hr (by omega) (by simp; omega)
      rw [nat_append] at h
      rw [show esc (c :: r) = escB c ++ esc r from rfl, hd2, ← List.append_assoc acc]
      exact h
    refine Ev.step (fun k => by rw [term_quoted.l0]) ?_
    simp only [if_pos (show (i : Int) < (s.size : Int) by omega), if_pos (show (0 : Int) ≤ (i : Int) by omega), hb]
    have j1t : (c.toNat = 34 ∨ c.toNat = 92) → Ev (fun k => term_quoted.j1 k s (nat acc) (i : Int) (c.toNat : Int) true) (ofL (acc ++ esc (c :: r) ++ [34])) := by
      intro hc
      refine Ev.step (fun k => by rw [term_quoted.j1]) ?_
      simp only [if_true, if_pos (show (i : Int) < (s.size : Int) by omega), if_pos (show (0 : Int) ≤ (i : Int) by omega), hb, Option.bind_some, wrap_succ (show i < 9223372036854775807 by omega)]
      exact two c (by
        unfold escB
        rcases hc with hc | hc
        · rw [if_pos hc, byte_eq hc (by decide)]
          rfl
        rw [if_neg (by omega), if_pos hc, byte_eq hc (by decide)]
        rfl)
    by_cases h1 : c.toNat = 34
    · simp only [if_pos (show (c.toNat : Int) = 34 by omega), beq_iff_eq.mpr (show (c.toNat : Int) = 34 by omega)]
      exact j1t (.inl h1)
    simp only [if_neg (show ¬ ((c.toNat : Int) = 34) by omega)]
    by_cases h2 : c.toNat = 92
    · simp only [beq_iff_eq.mpr (show (c.toNat : Int) = 92 by omega)]
      exact j1t (.inr h2)
    simp only [beq_eq_false_iff_ne.mpr (show ¬ ((c.toNat : Int) = 92) by omega)]
    refine Ev.step (fun k => by rw [term_quoted.j1]) ?_
    simp only [Bool.false_eq_true, if_false, if_pos (show (i : Int) < (s.size : Int) by omega), if_pos (show (0 : Int) ≤ (i : Int) by omega), hb, Option.bind_some, wrap_succ (show i < 9223372036854775807 by omega)]
    by_cases h3 : c.toNat = 10
    · simp only [if_pos (show (c.toNat : Int) = 10 by omega)]
      exact two 110 (by unfold escB; rw [if_neg h1, if_neg h2, if_pos h3])
    simp only [if_neg (show ¬ ((c.toNat : Int) = 10) by omega)]
    by_cases h4 : c.toNat = 9
    · simp only [if_pos (show (c.toNat : Int) = 9 by omega)]
      exact two 116 (by unfold escB; rw [if_neg h1, if_neg h2, if_neg h3, if_pos h4])
    simp only [if_neg (show ¬ ((c.toNat : Int) = 9) by omega), if_pos (show (nat acc).length < 140737488355328 by rw [nat_length]; omega)]
    have h := ih (i + 1) (acc ++ [c]) hr (by omega) (by simp; omega)
    rw [nat_append] at h
    rw [show esc (c :: r) = escB c ++ esc r from rfl, show escB c = [c] by unfold escB; rw [if_neg h1, if_neg h2, if_neg h3, if_neg h4], ← List.append_assoc acc]
    exact h
theorem quoted_ev (s : ByteArray) (hs : s.size ≤ 4096) : Ev (fun k => term_quoted.f k s) (ofL (34 :: (esc s.data.toList ++ [34]))) := by
  unfold term_quoted.f
  exact quoted_loop s hs _ 0 [34] rfl (by omega) (by simp)
theorem okIri_len {l : List UInt8} (h : okIri l = true) : l.length ≤ 4096 ∧ l ≠ [] := by
  unfold okIri at h
  simp only [Bool.and_eq_true, decide_eq_true_eq, Bool.not_eq_true'] at h
  exact ⟨h.1.2, by intro e; rw [e] at h; simp at h⟩
theorem okName_len {l : List UInt8} (h : okName l = true) : l.length ≤ 32 ∧ l ≠ [] := by
  rw [okName_all] at h
  simp only [Bool.and_eq_true, decide_eq_true_eq] at h
  exact ⟨h.1.1.2, by intro e; rw [e] at h; simp at h⟩
theorem okLang_len {l : List UInt8} (h : okLang l = true) : l.length ≤ 8 := by
  unfold okLang at h
  simp only [Bool.and_eq_true, decide_eq_true_eq] at h
  exact h.1.2
theorem okText_len {l : List UInt8} (h : okText l = true) : l.length ≤ 4096 := by
  unfold okText at h
  simp only [Bool.and_eq_true, decide_eq_true_eq] at h
  exact h.1
theorem okTm_two {t : Tm} (h : okTm t = true) (hk : t.k = 2) : okText t.x = true ∧ (t.ty = [] ∨ (okIri t.ty = true ∧ t.la = [])) ∧ (t.la = [] ∨ okLang t.la = true) := by
  unfold okTm at h
  rw [if_pos hk] at h
  simp only [Bool.and_eq_true, Bool.or_eq_true] at h
  obtain ⟨⟨h1, h2⟩, h3⟩ := h
  refine ⟨h1, ?_, ?_⟩
  · rcases h2 with h2 | h2
    · exact .inl (isEmpty_nil h2)
    refine .inr ⟨h2, ?_⟩
    rcases h3 with h3 | ⟨h3, _⟩
    · exact isEmpty_nil h3
    exact absurd (isEmpty_nil h3) (okIri_len h2).2
  rcases h3 with h3 | ⟨_, h3⟩
  · exact .inl (isEmpty_nil h3)
  exact .inr h3
theorem okTm_other {t : Tm} (h : okTm t = true) (hk : t.k ≠ 2) : t.ty = [] ∧ t.la = [] ∧ t.x.length ≤ 4096 ∧ (t.k = 0 → t.x = []) ∧ (t.k = 1 → okIri t.x = true) ∧ (t.k = 3 ∨ t.k = 4 → okName t.x = true) ∧ (t.k = 0 ∨ t.k = 1 ∨ t.k = 3 ∨ t.k = 4) := by
  unfold okTm at h
  rw [if_neg hk] at h
  simp only [Bool.and_eq_true] at h
  obtain ⟨⟨h1, h2⟩, h3⟩ := h
  by_cases k0 : t.k = 0
  · rw [if_pos k0] at h3
    have := isEmpty_nil h3
    exact ⟨isEmpty_nil h1, isEmpty_nil h2, by rw [this]; simp, fun _ => this, fun h => by omega, fun h => by omega, .inl k0⟩
  rw [if_neg k0] at h3
  by_cases k1 : t.k = 1
  · rw [if_pos k1] at h3
    exact ⟨isEmpty_nil h1, isEmpty_nil h2, (okIri_len h3).1, fun h => by omega, fun _ => h3, fun h => by omega, .inr (.inl k1)⟩
  rw [if_neg k1] at h3
  by_cases k34 : t.k = 3 ∨ t.k = 4
  · rw [if_pos k34] at h3
    exact ⟨isEmpty_nil h1, isEmpty_nil h2, by have := (okName_len h3).1; omega, fun h => by omega, fun h => by omega, fun _ => h3, .inr (.inr k34)⟩
  rw [if_neg k34] at h3; cases h3
theorem ttext_len {t : Tm} (h : okTm t = true) : (ttext t).length ≤ 20000 := by
  by_cases hk : t.k = 2
  · obtain ⟨h1, h2, h3⟩ := okTm_two h hk
    have l1 := esc_len t.x
    have l2 := okText_len h1
    have l3 : t.ty.length ≤ 4096 := by rcases h2 with h2 | h2; rw [h2]; simp; exact (okIri_len h2.1).1
    have l4 : t.la.length ≤ 8 := by rcases h3 with h3 | h3; rw [h3]; simp; exact okLang_len h3
    have e : ttext t = 34 :: (esc t.x ++ 34 :: tail2 t) := by unfold ttext; rw [if_neg (by omega), if_neg (by omega), if_neg (by omega), if_pos hk]
    rw [e]
    have l5 : (tail2 t).length ≤ 4096 + 4 + 9 := by
      unfold tail2
      rw [List.length_append]
      split <;> split <;> simp <;> omega
    simp only [List.length_cons, List.length_append]
    omega
  have h' := (okTm_other h hk).2.2.1
  unfold ttext
  split
  · simp; omega
  split
  · simp; omega
  split
  · simp; omega
  simp
theorem text_ev (k0 : Int) (a b c : ByteArray) (h : okTm (TT k0 a b c) = true) : Ev (fun k => term_Text.f k k0 a b c) (ofL (ttext (TT k0 a b c)), 0) := by
  unfold term_Text.f
  refine Ev.bind (tcheck_ev k0 a b c) ?_
  rw [h, e02_true]
  simp only [if_true, tl]
  by_cases k2 : k0 = 2
  · subst k2
    obtain ⟨h1, h2, h3⟩ := okTm_two h rfl
    have l2 := okText_len h1
    rw [show (TT 2 a b c).x = a.data.toList from rfl, size_toList] at l2
    simp only [if_neg (show ¬ ((2 : Int) = 1) by decide), if_neg (show ¬ ((2 : Int) = 3) by decide), if_neg (show ¬ ((2 : Int) = 4) by decide)]
    refine Ev.bind (quoted_ev a l2) ?_
    have lq := esc_len a.data.toList
    rw [size_toList] at lq
    have e : ttext (TT 2 a b c) = 34 :: (esc a.data.toList ++ 34 :: tail2 (TT 2 a b c)) := rfl
    rw [e]
    by_cases hb : b.data.toList = []
    · simp only [if_pos hb]
      by_cases hc : c.data.toList = []
      · simp only [if_pos hc]
        rw [show tail2 (TT 2 a b c) = [] by
          show (if b.data.toList.isEmpty then _ else _) ++ (if c.data.toList.isEmpty then _ else _) = _
          rw [hb, hc]
          rfl]
        exact Ev.now _
      simp only [if_neg hc]
      have l4 : c.size ≤ 8 := by
        rcases h3 with h3 | h3
        · exact absurd h3 hc
        have := okLang_len h3
        rwa [show (TT 2 a b c).la = c.data.toList from rfl, size_toList] at this
      have z1 : ((⟨#[64]⟩ : ByteArray) ++ c).size = 1 + c.size := by rw [ByteArray.size_append]; rfl
      have z3 : (ofL (34 :: (esc a.data.toList ++ [34]))).size ≤ 8194 := by rw [ofL_size]; simp; omega
      rw [if_pos (by omega), if_pos (by rw [z1]; omega)]
      rw [show tail2 (TT 2 a b c) = 64 :: c.data.toList by
        show (if b.data.toList.isEmpty then _ else _) ++ (if c.data.toList.isEmpty then _ else _) = _
        rw [hb, ne_empty hc]
        rfl]
      rw [show ofL (34 :: (esc a.data.toList ++ 34 :: 64 :: c.data.toList)) = ofL (34 :: (esc a.data.toList ++ [34])) ++ ((⟨#[64]⟩ : ByteArray) ++ c) from ba_ext (by simp [app_data, ofL_toList])]
      exact Ev.now _
    simp only [if_neg hb]
    obtain ⟨h2, hc⟩ : okIri b.data.toList = true ∧ c.data.toList = [] := by
      rcases h2 with h2 | h2
      · exact absurd h2 hb
      exact h2
    have l3 := (okIri_len h2).1
    rw [size_toList] at l3
    have z1 : ((⟨#[94, 94, 60]⟩ : ByteArray) ++ b).size = 3 + b.size := by rw [ByteArray.size_append]; rfl
    have z2 : (((⟨#[94, 94, 60]⟩ : ByteArray) ++ b) ++ (⟨#[62]⟩ : ByteArray)).size = 3 + b.size + 1 := by rw [ByteArray.size_append, z1]; rfl
    have z3 : (ofL (34 :: (esc a.data.toList ++ [34]))).size ≤ 8194 := by rw [ofL_size]; simp; omega
    rw [if_pos (by omega), if_pos (by rw [z1]; omega), if_pos (by rw [z2]; omega), if_pos hc]
    rw [show tail2 (TT 2 a b c) = 94 :: 94 :: 60 :: (b.data.toList ++ [62]) by
      show (if b.data.toList.isEmpty then _ else _) ++ (if c.data.toList.isEmpty then _ else _) = _
      rw [hc, ne_empty hb]
      show _ ++ [] = _
      rw [List.append_nil]
      rfl]
    rw [show ofL (34 :: (esc a.data.toList ++ 34 :: 94 :: 94 :: 60 :: (b.data.toList ++ [62]))) = ofL (34 :: (esc a.data.toList ++ [34])) ++ (((⟨#[94, 94, 60]⟩ : ByteArray) ++ b) ++ (⟨#[62]⟩ : ByteArray)) from ba_ext (by simp [app_data, ofL_toList])]
    exact Ev.now _
  obtain ⟨_, _, hl, hk⟩ := okTm_other h k2
  rw [show (TT k0 a b c).x = a.data.toList from rfl, size_toList] at hl
  by_cases k1 : k0 = 1
  · simp only [if_pos k1]
    have z1 : ((⟨#[60]⟩ : ByteArray) ++ a).size = 1 + a.size := by rw [ByteArray.size_append]; rfl
    rw [if_pos (by omega), if_pos (by rw [z1]; omega)]
    rw [show ttext (TT k0 a b c) = 60 :: (a.data.toList ++ [62]) by simp [ttext, TT, k1]]
    rw [show ofL (60 :: (a.data.toList ++ [62])) = ((⟨#[60]⟩ : ByteArray) ++ a) ++ (⟨#[62]⟩ : ByteArray) from ba_ext (by simp [app_data, ofL_toList])]
    exact Ev.now _
  simp only [if_neg k1]
  by_cases k3 : k0 = 3
  · simp only [if_pos k3]
    rw [if_pos (by omega)]
    rw [show ttext (TT k0 a b c) = 95 :: 58 :: a.data.toList by simp [ttext, TT, k3]]
    rw [show ofL (95 :: 58 :: a.data.toList) = (⟨#[95, 58]⟩ : ByteArray) ++ a from ba_ext (by simp [app_data, ofL_toList])]
    exact Ev.now _
  simp only [if_neg k3]
  by_cases k4 : k0 = 4
  · simp only [if_pos k4]
    rw [if_pos (by omega)]
    rw [show ttext (TT k0 a b c) = 63 :: a.data.toList by simp [ttext, TT, k4]]
    rw [show ofL (63 :: a.data.toList) = (⟨#[63]⟩ : ByteArray) ++ a from ba_ext (by simp [app_data, ofL_toList])]
    exact Ev.now _
  simp only [if_neg k4, if_neg k2]
  rw [show ttext (TT k0 a b c) = [] by simp [ttext, TT, k1, k2, k3, k4]]
  exact Ev.now _
end Go.Proofs.YtgabadlneeffkaaGreatDoor.G

/- What result.Put comes to: the bytes of a reply. -/
namespace Go.Proofs.YtgabadlneeffkaaGreatDoor.G
open Go.RowKit Go.Lib Go.Proofs.YtgabadlneeffkaaGreatDoor Go.Proofs.YtgabadlneeffkaaGreatDoorW.PrintWords Go.Proofs.YtgabadlneeffkaaGreatDoorW.PrintLast
set_option linter.unusedVariables false
set_option linter.unusedSimpArgs false

def joinT : List (List UInt8) → List UInt8
  | [] => []
  | [a] => a
  | a :: b :: r => a ++ 9 :: joinT (b :: r)
theorem joinT_cons (a b : List UInt8) (r : List (List UInt8)) : joinT (a :: b :: r) = a ++ 9 :: joinT (b :: r) := rfl
theorem join_joinT : ∀ l : List (List UInt8), Lib.join l [9] = joinT l
  | [] => rfl
  | [a] => by simp [Lib.join, List.intercalate, joinT]
  | a :: b :: r => by
    have ih := join_joinT (b :: r)
    rw [joinT_cons, ← ih]
    simp [Lib.join, List.intercalate]
theorem joinT_len (M : Nat) : ∀ l : List (List UInt8), (∀ x ∈ l, x.length ≤ M) → (joinT l).length ≤ l.length * (M + 1)
  | [], _ => by simp [joinT]
  | [a], h => by have := h a (by simp); simp [joinT]; omega
  | a :: b :: r, h => by
    have ih := joinT_len M (b :: r) (fun x hx => h x (List.mem_cons_of_mem _ hx))
    have := h a (by simp)
    rw [joinT_cons, List.length_append, List.length_cons]
    rw [show (a :: b :: r).length = (b :: r).length + 1 from rfl, Nat.add_mul]
    omega
def unl (ls : List (List UInt8)) : List UInt8 := ls.flatMap (· ++ [10])
theorem unl_cons (a : List UInt8) (r : List (List UInt8)) : unl (a :: r) = a ++ 10 :: unl r := by simp [unl]
theorem unl_nil : unl [] = [] := rfl
def rowL (row : List S43) : List UInt8 := joinT (row.map fun t => ttext (T t))
def linesOf (id : Nat) (kind : Int) (vars : List ByteArray) (rows : List (List S43)) (tr : Bool) (er : Nat) : List (List UInt8) :=
  dd id :: (if kind = 2 then [if tr then [116, 114, 117, 101] else [102, 97, 108, 115, 101]] else if kind = 3 then [[101, 114, 114, 111, 114, 32] ++ dd er]
    else [114, 111, 119, 115] :: joinT ((B vars).map (63 :: ·)) :: rows.map rowL)
def bytesL (id : Nat) (kind : Int) (vars : List ByteArray) (rows : List (List S43)) (tr : Bool) (er : Nat) : List UInt8 := unl (linesOf id kind vars rows tr er)
def finL (l : List UInt8) : ByteArray × Int := if l.length > 65536 then (⟨#[]⟩, 3) else (ofL l, 0)
theorem finP_eq (out : ByteArray) : finP out = some (finL out.data.toList) := by
  unfold finP finL
  rw [size_toList]
  by_cases h : out.size > 65536
  · rw [if_pos (by omega), if_pos h]
  rw [if_neg (by omega), if_neg h, ofL_data]
theorem cellsT_eq (xs : List ByteArray) (h1 : xs.length ≤ 32) (h2 : ∀ x ∈ xs, x.size ≤ 20001) : cellsT xs = some (ofL (joinT (B xs) ++ [10])) ∧ (joinT (B xs)).length ≤ 700000 := by
  have hl : (joinT (B xs)).length ≤ 32 * 20002 := by
    have := joinT_len 20001 (B xs) (by
      intro x hx
      obtain ⟨y, hy, rfl⟩ := List.mem_map.1 hx
      rw [size_toList]
      exact h2 y hy)
    rw [B_len] at this
    exact Nat.le_trans this (Nat.mul_le_mul_right _ h1)
  refine ⟨?_, by omega⟩
  unfold cellsT strings_Join.f
  rw [show xs.map (·.data.toList) = B xs from rfl, show (⟨#[9]⟩ : ByteArray).data.toList = [9] from rfl, join_joinT, if_pos ⟨by omega, by omega⟩, Option.bind_some]
  have e : (⟨(joinT (B xs)).toArray⟩ : ByteArray) = ofL (joinT (B xs)) := rfl
  rw [e, if_pos (by rw [ofL_size]; omega), show (⟨#[10]⟩ : ByteArray) = ofL [10] from rfl, ofL_append]
theorem cellOK_tm {t : S43} (h : cellOK t = true) : okTm (T t) = true ∧ t.f0 ≠ 4 := by
  unfold cellOK at h
  simp only [Bool.and_eq_true, Bool.not_eq_true', beq_eq_false_iff_ne] at h
  exact ⟨h.2, h.1⟩
theorem rowTexts_ev : ∀ row : List S43, row.all cellOK = true → Ev (fun k => rowTexts k row) (row.map fun t => ofL (ttext (T t)))
  | [], _ => Ev.now _
  | t :: r, h => by
    rw [List.all_cons, Bool.and_eq_true] at h
    have ht := (cellOK_tm h.1).1
    simp only [rowTexts]
    refine Ev.bind (text_ev t.f0 t.f1 t.f2 t.f3 ht) ?_
    refine Ev.bind (rowTexts_ev r h.2) ?_
    exact Ev.now _
theorem B_ofL (l : List (List UInt8)) : B (l.map ofL) = l := by
  unfold B
  rw [List.map_map]
  conv => rhs; rw [← List.map_id l]
  exact List.map_congr_left (fun x _ => ofL_toList x)
theorem rowsP_ev (n : Nat) (hn : n ≤ 32) : ∀ (rows : List (List S43)) (out : ByteArray), rows.all (rowOK n) = true → out.size ≤ 2000000 →
    Ev (fun k => rowsP k rows out) (finL (out.data.toList ++ unl (rows.map rowL)))
  | [], out, _, _ => by
    simp only [rowsP, List.map_nil, unl_nil, List.append_nil]
    rw [finP_eq]
    exact Ev.now _
  | row :: rs, out, h, ho => by
    rw [List.all_cons, Bool.and_eq_true] at h
    obtain ⟨h1, h2⟩ := h
    unfold rowOK at h1
    rw [Bool.and_eq_true, beq_iff_eq] at h1
    obtain ⟨hl, hc⟩ := h1
    simp only [rowsP, if_pos (show row.length < 8796093022208 by omega)]
    refine Ev.bind (rowTexts_ev row hc) ?_
    obtain ⟨c1, c2⟩ := cellsT_eq (row.map fun t => ofL (ttext (T t))) (by rw [List.length_map]; omega) (by
      intro x hx
      obtain ⟨t, ht, rfl⟩ := List.mem_map.1 hx
      rw [ofL_size]
      have := ttext_len (cellOK_tm (List.all_eq_true.1 hc t ht)).1
      omega)
    have e : B (row.map fun t => ofL (ttext (T t))) = row.map fun t => ttext (T t) := by
      have := B_ofL (row.map fun t => ttext (T t))
      rwa [List.map_map] at this
    rw [e] at c1 c2
    rw [show joinT (row.map fun t => ttext (T t)) = rowL row from rfl] at c1 c2
    simp only [c1, Option.bind_some]
    have hz : (out ++ ofL (rowL row ++ [10])).size = out.size + (rowL row ++ [10]).length := by rw [ByteArray.size_append, ofL_size]
    have hd : (out ++ ofL (rowL row ++ [10])).data.toList = out.data.toList ++ (rowL row ++ [10]) := by rw [app_data, ofL_toList]
    have hl2 : (rowL row ++ [10]).length ≤ 700001 := by rw [List.length_append]; simp; omega
    simp only [if_pos (show out.size + (ofL (rowL row ++ [10])).size ≤ 9223372036854775807 by rw [ofL_size]; omega), hz]
    have et : out.data.toList ++ unl ((row :: rs).map rowL) = (out ++ ofL (rowL row ++ [10])).data.toList ++ unl (rs.map rowL) := by
      rw [hd, List.map_cons, unl_cons]
      simp
    rw [et]
    by_cases hb : out.size + (rowL row ++ [10]).length > 65536
    · simp only [if_pos (show ((out.size + (rowL row ++ [10]).length : Nat) : Int) > 65536 by omega)]
      rw [finL, if_pos (by rw [List.length_append, hd, List.length_append, size_toList]; omega)]
      exact Ev.now _
    simp only [if_neg (show ¬ (((out.size + (rowL row ++ [10]).length : Nat) : Int) > 65536) by omega)]
    exact rowsP_ev n hn rs _ h2 (by rw [hz]; omega)
theorem nmOK_all : ∀ (l p : List (List UInt8)), nmOK p l = true → ∀ x ∈ l, okName x = true
  | [], _, _, x, hx => by cases hx
  | v :: r, p, h, x, hx => by
    unfold nmOK at h
    simp only [Bool.and_eq_true] at h
    rcases List.mem_cons.1 hx with rfl | hx
    · exact h.1.1
    exact nmOK_all r _ h.2 x hx
theorem rightR_all {vars : List ByteArray} {rows : List (List S43)} (h : rightR vars rows = true) : vars.length ≤ 32 ∧ (∀ x ∈ B vars, okName x = true) ∧ rows.all (rowOK vars.length) = true := by
  unfold rightR at h
  rw [Bool.and_eq_true] at h
  obtain ⟨h1, h2⟩ := h
  unfold tabOK at h1
  simp only [Bool.and_eq_true, decide_eq_true_eq] at h1
  refine ⟨h1.1.1.1, nmOK_all _ _ h1.1.2, ?_⟩
  rw [List.all_eq_true] at h2 ⊢
  intro r hr
  have := h2 r hr
  unfold tabOK at this
  simp only [Bool.and_eq_true, List.all_cons] at this
  exact this.2.1
/-- what a reply that is right is -/
theorem chk_zero {a0 a1 : Int} {vars : List ByteArray} {rows : List (List S43)} {tr : Bool} {er : Int} (h : chk a0 a1 vars rows tr er = 0) :
    0 ≤ a0 ∧ a0 < 4096 ∧ ((a1 = 1 ∧ tr = false ∧ er = 0 ∧ rightR vars rows = true ∧ rows.length ≤ 1024) ∨ (a1 = 2 ∧ vars = [] ∧ rows = [] ∧ er = 0) ∨ (a1 = 3 ∧ vars = [] ∧ rows = [] ∧ tr = false ∧ 1 ≤ er ∧ er ≤ 9)) := by
  unfold chk at h
  by_cases hb : badR a0 a1 er
  · rw [if_pos hb] at h; cases h
  rw [if_neg hb] at h
  have hb2 : ¬ (a0 < 0 ∨ a0 ≥ 4096 ∨ a1 < 1 ∨ a1 > 3 ∨ (a1 = 3 ∧ (er < 1 ∨ er > 9))) := hb
  refine ⟨by omega, by omega, ?_⟩
  by_cases k1 : a1 = 1
  · rw [if_pos k1] at h
    by_cases h2 : tr = true ∨ ¬ er = 0 ∨ ¬ rightR vars rows = true
    · rw [if_pos h2] at h; cases h
    rw [if_neg h2] at h
    by_cases h3 : rows.length > 1024
    · rw [if_pos h3] at h; cases h
    simp only [not_or, Decidable.not_not, Bool.not_eq_true] at h2
    exact .inl ⟨k1, h2.1, h2.2.1, by simpa using h2.2.2, by omega⟩
  rw [if_neg k1] at h
  by_cases k2 : a1 = 2
  · rw [if_pos k2] at h
    by_cases h2 : vars.length = 0 ∧ rows.length = 0 ∧ er = 0
    · exact .inr (.inl ⟨k2, List.length_eq_zero_iff.1 h2.1, List.length_eq_zero_iff.1 h2.2.1, h2.2.2⟩)
    rw [if_neg h2] at h; cases h
  rw [if_neg k2] at h
  by_cases h2 : vars.length = 0 ∧ rows.length = 0 ∧ tr = false
  · exact .inr (.inr ⟨by omega, List.length_eq_zero_iff.1 h2.1, List.length_eq_zero_iff.1 h2.2.1, h2.2.2, by omega, by omega⟩)
  rw [if_neg h2] at h; cases h
theorem itB_dd (n : Int) (h0 : 0 ≤ n) (h : n < 4096) : itB n = ofL (dd n.toNat) := by
  unfold itB
  rw [show n = ((n.toNat : Nat) : Int) by omega, itoa_dd _ (by omega), Int.toNat_natCast]
  rfl
theorem dd_len (n : Nat) : (dd n).length ≤ 4 := by
  unfold dd
  repeat' split
  all_goals simp
theorem fbB_eq (b : Bool) : fbB b = ofL (if b then [116, 114, 117, 101] else [102, 97, 108, 115, 101]) := by
  have key : ∀ b : Bool, (fbB b).data.toList = (if b then [116, 114, 117, 101] else [102, 97, 108, 115, 101]) := by decide +kernel
  exact ba_ext (by rw [key, ofL_toList])
theorem put_ev (a0 a1 : Int) (vars : List ByteArray) (rows : List (List S43)) (hr : rows.length ≤ 9223372036854775807) (tr : Bool) (er : Int) :
    Ev (fun k => result_Put.f k a0 a1 vars rows tr er) (if chk a0 a1 vars rows tr er = 0 then finL (bytesL a0.toNat a1 vars rows tr er.toNat) else (⟨#[]⟩, chk a0 a1 vars rows tr er)) := by
  unfold result_Put.f
  refine Ev.bind (chk_ev a0 a1 vars rows hr tr er) ?_
  by_cases h0 : chk a0 a1 vars rows tr er = 0
  · simp only [if_pos h0]
    obtain ⟨p1, p2, hk⟩ := chk_zero h0
    have he : 0 ≤ er ∧ er ≤ 9 := by omega
    have d1 := itB_dd a0 p1 p2
    have d2 := itB_dd er he.1 (by omega)
    have l1 := dd_len a0.toNat
    have l2 := dd_len er.toNat
    have l3 : (if tr = true then ([116, 114, 117, 101] : List UInt8) else [102, 97, 108, 115, 101]).length ≤ 5 := by split <;> simp
    have hs : smallP a0 er tr := by
      refine ⟨p1, by omega, by omega, by omega, ?_, ?_, ?_⟩
      · rw [d1, ofL_size]; omega
      · rw [d2, ofL_size]; omega
      rw [fbB_eq, ofL_size]; omega
    simp only [if_pos hs]
    have hp : put0 a0 = ofL (dd a0.toNat ++ [10]) := by
      unfold put0
      rw [d1, show (⟨#[10]⟩ : ByteArray) = ofL [10] from rfl, ofL_append]
    rw [hp]
    rcases hk with ⟨k1, k2, k3, k4, k5⟩ | ⟨k1, k2, k3, k4⟩ | ⟨k1, k2, k3, k4, k5, k6⟩
    · subst k1
      simp only [if_neg (show ¬ ((1 : Int) = 2) by decide), if_neg (show ¬ ((1 : Int) = 3) by decide)]
      obtain ⟨v1, v2, v3⟩ := rightR_all k4
      have vz : ∀ t ∈ vars, t.size ≤ 32 := by
        intro t ht
        have := (okName_len (v2 _ (List.mem_map.2 ⟨t, ht, rfl⟩))).1
        rwa [size_toList] at this
      have hg : vars.length < 8796093022208 ∧ rows.length < 8796093022208 ∧ ∀ t ∈ vars, 1 + t.size ≤ 9223372036854775807 := ⟨by omega, by omega, fun t ht => by have := vz t ht; omega⟩
      simp only [if_pos hg]
      have hm : (vars.map fun t => (⟨#[63]⟩ : ByteArray) ++ t) = ((B vars).map (63 :: ·)).map ofL := by
        unfold B
        rw [List.map_map, List.map_map]
        apply List.map_congr_left
        intro t _
        show (⟨#[63]⟩ : ByteArray) ++ t = ofL (63 :: t.data.toList)
        exact ba_ext (by rw [app_data, ofL_toList]; rfl)
      obtain ⟨c1, c2⟩ := cellsT_eq (vars.map fun t => (⟨#[63]⟩ : ByteArray) ++ t) (by rw [List.length_map]; exact v1) (by
        intro x hx
        obtain ⟨t, ht, rfl⟩ := List.mem_map.1 hx
        rw [ByteArray.size_append, show (⟨#[63]⟩ : ByteArray).size = 1 from rfl]
        have := vz t ht
        omega)
      rw [hm, B_ofL] at c1 c2
      rw [hm]
      simp only [c1, Option.bind_some]
      simp only [if_pos (show 2000 + (ofL (joinT ((B vars).map (63 :: ·)) ++ [10])).size ≤ 9223372036854775807 by rw [ofL_size, List.length_append]; simp; omega)]
      have h := rowsP_ev vars.length v1 rows (ofL (dd a0.toNat ++ [10]) ++ ((⟨#[114, 111, 119, 115, 10]⟩ : ByteArray) ++ ofL (joinT ((B vars).map (63 :: ·)) ++ [10]))) v3 (by
        rw [ByteArray.size_append, ByteArray.size_append, ofL_size, ofL_size, show (⟨#[114, 111, 119, 115, 10]⟩ : ByteArray).size = 5 from rfl, List.length_append, List.length_append]
        simp
        omega)
      have e : (ofL (dd a0.toNat ++ [10]) ++ ((⟨#[114, 111, 119, 115, 10]⟩ : ByteArray) ++ ofL (joinT ((B vars).map (63 :: ·)) ++ [10]))).data.toList ++ unl (rows.map rowL) = bytesL a0.toNat 1 vars rows tr er.toNat := by
        unfold bytesL linesOf
        rw [if_neg (by decide), if_neg (by decide), unl_cons, unl_cons, unl_cons, app_data, app_data, ofL_toList, ofL_toList, show (⟨#[114, 111, 119, 115, 10]⟩ : ByteArray).data.toList = [114, 111, 119, 115, 10] from rfl]
        simp
      rw [e] at h
      exact h
    · subst k1
      simp only [if_true]
      have e : (ofL (dd a0.toNat ++ [10]) ++ (fbB tr ++ (⟨#[10]⟩ : ByteArray))).data.toList = bytesL a0.toNat 2 vars rows tr er.toNat := by
        unfold bytesL linesOf
        rw [if_pos rfl, unl_cons, unl_cons, unl_nil, app_data, app_data, ofL_toList, fbB_eq, ofL_toList, show (⟨#[10]⟩ : ByteArray).data.toList = [10] from rfl]
        simp
      rw [finP_eq, e]
      exact Ev.now _
    subst k1
    simp only [if_neg (show ¬ ((3 : Int) = 2) by decide), if_true]
    have e : (ofL (dd a0.toNat ++ [10]) ++ (((⟨#[101, 114, 114, 111, 114, 32]⟩ : ByteArray) ++ itB er) ++ (⟨#[10]⟩ : ByteArray))).data.toList = bytesL a0.toNat 3 vars rows tr er.toNat := by
      unfold bytesL linesOf
      rw [if_neg (by decide), if_pos rfl, unl_cons, unl_cons, unl_nil, app_data, app_data, app_data, ofL_toList, d2, ofL_toList, show (⟨#[10]⟩ : ByteArray).data.toList = [10] from rfl, show (⟨#[101, 114, 114, 111, 114, 32]⟩ : ByteArray).data.toList = [101, 114, 114, 111, 114, 32] from rfl]
      simp
    rw [finP_eq, e]
    exact Ev.now _
  simp only [if_neg h0]
  exact Ev.now _
end Go.Proofs.YtgabadlneeffkaaGreatDoor.G

/- What the printed functions that read a term come to: tpre and tread. -/
namespace Go.Proofs.YtgabadlneeffkaaGreatDoor.G
open Go.RowKit Go.Lib Go.Proofs.YtgabadlneeffkaaGreatDoor Go.Proofs.YtgabadlneeffkaaGreatDoorW.PrintWords Go.Proofs.YtgabadlneeffkaaGreatDoorW.PrintLast
set_option linter.unusedVariables false
set_option linter.unusedSimpArgs false

theorem ext_ofL (s : ByteArray) (i j : Nat) : s.extract i j = ofL ((s.data.toList.drop i).take (j - i)) := by
  rw [← ext_toList, ofL_data]
theorem ext_end (s : ByteArray) (i : Nat) : s.extract i s.size = ofL (s.data.toList.drop i) := by
  rw [ext_ofL, List.take_of_length_le (by rw [List.length_drop, size_toList]; omega)]
def zero5 : Int × ByteArray × ByteArray × ByteArray × Int := (0, ⟨#[]⟩, ⟨#[]⟩, ⟨#[]⟩, 0)
def val5 (n : Nat) (x : Tm × List UInt8) : Int × ByteArray × ByteArray × ByteArray × Int := (x.1.k, ofL x.1.x, ofL x.1.ty, ofL x.1.la, ((n - x.2.length : Nat) : Int))
def preV (n : Nat) : Option (Tm × List UInt8) → Int × ByteArray × ByteArray × ByteArray × Int
  | some x => val5 n x
  | none => zero5
theorem hasP (l : List UInt8) (a b : UInt8) : Lib.hasPrefix l [a, b] = (match l with | x :: y :: _ => x == a && y == b | _ => false) := by
  match l with
  | [] => rfl
  | [x] => simp [Lib.hasPrefix, List.isPrefixOf]
  | x :: y :: r =>
    simp only [Lib.hasPrefix, List.isPrefixOf, Bool.and_true]
    rw [show (a == x) = (x == a) by rw [Bool.eq_iff_iff, beq_iff_eq, beq_iff_eq]; exact eq_comm, show (b == y) = (y == b) by rw [Bool.eq_iff_iff, beq_iff_eq, beq_iff_eq]; exact eq_comm]
theorem toN_eq {c : UInt8} {n : Nat} (hn : n < 256) : (c == UInt8.ofNat n) = (c.toNat == n) := by
  rw [Bool.eq_iff_iff, beq_iff_eq, beq_iff_eq]
  constructor
  · rintro rfl
    simp only [UInt8.toNat_ofNat']
    omega
  intro h
  exact byte_eq h hn
theorem tpre_iri {l : List UInt8} {p q : List UInt8} (h : iriR l = some (p, q)) : tpre l = some (⟨1, p, [], []⟩, q) := by
  cases l with
  | nil => cases h
  | cons c r =>
    have hc : c.toNat = 60 := by
      unfold iriR at h
      by_cases hc : c.toNat = 60
      · exact hc
      simp only [if_neg hc] at h; cases h
    rw [tpre_cons, if_pos hc, h]
    rfl
theorem behindR_k (t : Tm) (r : List UInt8) : (behindR t r).1.k = t.k := by
  cases r with
  | nil => rfl
  | cons a r1 =>
    rw [behindR_cons]
    by_cases h1 : a.toNat = 94
    · rw [if_pos h1]
      cases r1 with
      | nil => rfl
      | cons b r2 =>
        simp only
        by_cases h2 : b.toNat = 94
        · rw [if_pos h2]
          cases iriR r2 with
          | none => rfl
          | some x => rfl
        rw [if_neg h2]
    rw [if_neg h1]
    by_cases h2 : a.toNat = 64
    · rw [if_pos h2]
      by_cases h3 : okLang (r1.takeWhile langB) = true
      · rw [if_pos h3]
      rw [if_neg h3]
    rw [if_neg h2]
theorem tpre_k1 {l : List UInt8} {x : Tm} {q : List UInt8} (h : tpre l = some (x, q)) (hk : x.k = 1) : iriR l = some (x.x, q) ∧ x.ty = [] ∧ x.la = [] := by
  cases l with
  | nil => cases h
  | cons c r =>
    rw [tpre_cons] at h
    by_cases h1 : c.toNat = 60
    · rw [if_pos h1] at h
      obtain ⟨y, hy, he⟩ := Option.map_eq_some_iff.1 h
      simp only [Prod.mk.injEq] at he
      obtain ⟨rfl, rfl⟩ := he
      exact ⟨hy, rfl, rfl⟩
    rw [if_neg h1] at h
    by_cases h2 : c.toNat = 34
    · rw [if_pos h2] at h
      obtain ⟨y, hy, he⟩ := Option.bind_eq_some_iff.1 h
      by_cases h3 : okText y.1 = true
      · rw [if_pos h3] at he
        have := behindR_k ⟨2, y.1, [], []⟩ y.2
        rw [Option.some.inj he] at this
        rw [hk] at this
        cases this
      rw [if_neg h3] at he; cases he
    rw [if_neg h2] at h
    by_cases h3 : c.toNat = 63
    · rw [if_pos h3] at h
      by_cases h4 : 0 < nameN r
      · rw [if_pos h4] at h
        simp only [Option.some.injEq, Prod.mk.injEq] at h
        obtain ⟨rfl, _⟩ := h
        cases hk
      rw [if_neg h4] at h; cases h
    rw [if_neg h3] at h
    by_cases h4 : c.toNat = 95
    · rw [if_pos h4] at h
      cases r with
      | nil => cases h
      | cons d r1 =>
        simp only at h
        by_cases h5 : d.toNat = 58
        · rw [if_pos h5] at h
          by_cases h6 : 0 < nameN r1
          · rw [if_pos h6] at h
            simp only [Option.some.injEq, Prod.mk.injEq] at h
            obtain ⟨rfl, _⟩ := h
            cases hk
          rw [if_neg h6] at h; cases h
        rw [if_neg h5] at h; cases h
    rw [if_neg h4] at h; cases h
theorem iriR_len {l p q : List UInt8} (h : iriR l = some (p, q)) : q.length < l.length := by
  rw [(iriR_some h).1]
  simp
  omega

theorem lang_loop (s : ByteArray) (hs : s.size ≤ 35184372088832) (i : Nat) (hi : i < s.size) (x : ByteArray) : ∀ (r p : List UInt8) (P : Nat → TP), s.data.toList.drop (i + 1) = p ++ r →
    Ev (fun k => @term_behind.l0 ⟨P k⟩ k s (i : Int) ((i + 1 + p.length : Nat) : Int) 2 x ⟨#[]⟩ ⟨#[]⟩) (if okLang (p ++ r.takeWhile langB) = true then (2, x, ⟨#[]⟩, ofL (p ++ r.takeWhile langB), ((i + 1 + p.length + (r.takeWhile langB).length : Nat) : Int)) else (2, x, ⟨#[]⟩, ⟨#[]⟩, (i : Int))) := by
  intro r
  have stop : ∀ (p r : List UInt8), s.data.toList.drop (i + 1) = p ++ r → i + 1 + p.length ≤ s.size → Ev (fun k => (term_isLang.f k (s.extract (i + 1) (i + 1 + p.length))).bind fun t => (if t = true then (some ((2 : Int), x, (⟨#[]⟩ : ByteArray), s.extract (i + 1) (i + 1 + p.length), ((i + 1 + p.length : Nat) : Int))) else (some ((2 : Int), x, (⟨#[]⟩ : ByteArray), (⟨#[]⟩ : ByteArray), (i : Int))))) (if okLang p = true then (2, x, ⟨#[]⟩, ofL p, ((i + 1 + p.length : Nat) : Int)) else (2, x, ⟨#[]⟩, ⟨#[]⟩, (i : Int))) := by
    intro p r hd hl
    have e : s.extract (i + 1) (i + 1 + p.length) = ofL p := by
      rw [ext_ofL, hd, show i + 1 + p.length - (i + 1) = p.length by omega, List.take_left']
      rfl
    rw [e]
    refine Ev.bind (isLang_ev (ofL p)) ?_
    rw [ofL_toList]
    by_cases h : okLang p = true
    · simp only [h, if_true]; exact Ev.now _
    simp only [if_neg h]; exact Ev.now _
  induction r with
  | nil =>
    intro p P hd
    rw [List.append_nil] at hd
    have hl : i + 1 + p.length = s.size := by
      have := congrArg List.length hd
      rw [List.length_drop, size_toList] at this
      omega
    refine Ev.step (fun k => by letI : Inhabited TP := ⟨P (k + 1)⟩; rw [term_behind.l0]) ?_
    simp only [if_neg (show ¬ (((i + 1 + p.length : Nat) : Int) < (s.size : Int)) by omega), wrap_succ (show i < 9223372036854775807 by omega), if_pos (show (0 : Int) ≤ ((i + 1 : Nat) : Int) by omega), if_pos (show ((i + 1 : Nat) : Int) ≤ ((i + 1 + p.length : Nat) : Int) by omega), if_pos (show ((i + 1 + p.length : Nat) : Int) ≤ (s.size : Int) by omega), Int.toNat_natCast, List.takeWhile_nil, List.append_nil, List.length_nil, Nat.add_zero]
    exact stop p [] (by rw [List.append_nil]; exact hd) (by omega)
  | cons c r ih =>
    intro p P hd
    have hd2 : s.data.toList.drop (i + 1 + p.length) = c :: r := by
      rw [← List.drop_drop, hd, List.drop_left']
      rfl
    obtain ⟨hb, hlt, hr⟩ := bt_of_drop hd2
    refine Ev.step (fun k => by letI : Inhabited TP := ⟨P (k + 1)⟩; rw [term_behind.l0]) ?_
    simp only [if_pos (show (((i + 1 + p.length : Nat) : Int) < (s.size : Int)) by omega), if_pos (show (0 : Int) ≤ ((i + 1 + p.length : Nat) : Int) by omega), hb, wrap_succ (show i < 9223372036854775807 by omega), wrap_succ (show i + 1 + p.length < 9223372036854775807 by omega), if_pos (show (0 : Int) ≤ ((i + 1 : Nat) : Int) by omega), if_pos (show ((i + 1 : Nat) : Int) ≤ ((i + 1 + p.length : Nat) : Int) by omega), if_pos (show ((i + 1 + p.length : Nat) : Int) ≤ (s.size : Int) by omega), Int.toNat_natCast]
    by_cases hc : langB c = true
    · have h1 : 97 ≤ c.toNat ∧ c.toNat ≤ 122 := by simpa [langB] using hc
      simp only [if_pos (show (c.toNat : Int) ≥ 97 by omega), if_pos (show (c.toNat : Int) ≤ 122 by omega)]
      have h := ih (p ++ [c]) (fun k => P (k + 1)) (by rw [List.append_assoc]; exact hd)
      rw [List.takeWhile_cons_of_pos hc]
      rw [List.length_append, List.length_singleton, List.append_assoc] at h
      rw [List.length_cons]
      rw [show i + 1 + p.length + ((r.takeWhile langB).length + 1) = i + 1 + (p.length + 1) + (r.takeWhile langB).length by omega]
      exact h
    rw [List.takeWhile_cons_of_neg hc, List.append_nil, List.length_nil, Nat.add_zero]
    have h := stop p (c :: r) hd (by omega)
    by_cases h1 : 97 ≤ c.toNat
    · have h2 : ¬ c.toNat ≤ 122 := fun h2 => hc (by simp [langB, h1, h2])
      simp only [if_pos (show (c.toNat : Int) ≥ 97 by omega), if_neg (show ¬ ((c.toNat : Int) ≤ 122) by omega)]
      exact h
    simp only [if_neg (show ¬ ((c.toNat : Int) ≥ 97) by omega)]
    exact h
def IHP (P : Nat → TP) (n : Nat) : Prop := ∀ m : ByteArray, m.size < n → Ev (fun k => (P k).f m) (preV m.size (tpre m.data.toList))
theorem Ev.shift {α : Type} {g : Nat → Option α} {v : α} (h : Ev g v) : Ev (fun k => g (k + 1)) v := by
  obtain ⟨K, hK⟩ := h
  exact ⟨K, fun k hk => hK (k + 1) (by omega)⟩
theorem IHP.shift {P : Nat → TP} {n : Nat} (h : IHP P n) : IHP (fun k => P (k + 1)) n := fun m hm => Ev.shift (h m hm)
theorem behind_ev (P : Nat → TP) (s : ByteArray) (hs : s.size ≤ 35184372088832) (IH : IHP P s.size) (i : Nat) (hi : i ≤ s.size) (x : ByteArray) :
    Ev (fun k => @term_behind.f ⟨P k⟩ k 2 x ⟨#[]⟩ ⟨#[]⟩ s (i : Int)) (val5 s.size (behindR ⟨2, x.data.toList, [], []⟩ (s.data.toList.drop i))) := by
  unfold term_behind.f strings_HasPrefix.f
  simp only [if_pos (show (0 : Int) ≤ (i : Int) by omega), if_pos (show (i : Int) ≤ (s.size : Int) by omega), Option.bind_some, Int.toNat_natCast]
  have ex : (s.extract i s.size).data.toList = s.data.toList.drop i := by rw [ext_end, ofL_toList]
  rw [ex, show ([94, 94] : List UInt8) = [UInt8.ofNat 94, UInt8.ofNat 94] from rfl, hasP]
  have hx : ofL x.data.toList = x := ofL_data x
  have dull : ∀ r : List UInt8, s.data.toList.drop i = r → val5 s.size (⟨2, x.data.toList, [], []⟩, r) = (2, x, ⟨#[]⟩, ⟨#[]⟩, (i : Int)) := by
    intro r hr
    have hl := congrArg List.length hr
    rw [List.length_drop, size_toList] at hl
    unfold val5
    simp only [hx]
    rw [show s.size - r.length = i by omega]
    rfl
  have j0f : Ev (fun k => @term_behind.j0 ⟨P k⟩ k s (i : Int) false 2 x ⟨#[]⟩ ⟨#[]⟩) (2, x, ⟨#[]⟩, ⟨#[]⟩, (i : Int)) := by
    refine Ev.step (fun k => by letI : Inhabited TP := ⟨P (k + 1)⟩; rw [term_behind.j0]) ?_
    simp only [Bool.false_eq_true, if_false]
    exact Ev.now _
  cases hd : s.data.toList.drop i with
  | nil =>
    have hz := size_of_drop hd
    simp only [Bool.false_eq_true, if_false, if_neg (show ¬ ((i : Int) < (s.size : Int)) by omega)]
    rw [show behindR ⟨2, x.data.toList, [], []⟩ [] = (⟨2, x.data.toList, [], []⟩, []) from rfl, dull _ hd]
    exact j0f
  | cons a r1 =>
    obtain ⟨hb, hlt, hr⟩ := bt_of_drop hd
    rw [behindR_cons]
    by_cases h1 : a.toNat = 94
    · rw [if_pos h1]
      cases r1 with
      | nil =>
        simp only [Bool.false_eq_true, if_false, if_pos (show (i : Int) < (s.size : Int) by omega), hb, h1, show (((94 : Nat) : Int) == 64) = false from rfl]
        rw [dull _ hd]
        exact j0f
      | cons b r2 =>
        obtain ⟨hb2, hlt2, hr2⟩ := bt_of_drop hr
        simp only [toN_eq (show 94 < 256 by decide), h1, beq_self_eq_true, Bool.true_and]
        by_cases h2 : b.toNat = 94
        · simp only [h2, beq_self_eq_true, if_true, wrap_plus (show i < 4611686018427387904 by omega), if_pos (show (0 : Int) ≤ ((i + 2 : Nat) : Int) by omega), if_pos (show ((i + 2 : Nat) : Int) ≤ (s.size : Int) by omega), Int.toNat_natCast]
          have em : s.extract (i + 2) s.size = ofL r2 := by rw [ext_end, show i + 2 = i + 1 + 1 from rfl, hr2]
          rw [em]
          have hl2 := congrArg List.length hr2
          rw [List.length_drop, size_toList] at hl2
          refine Ev.bind (g := fun k => @term_PrefixH.f ⟨P k⟩ (ofL r2)) (IH (ofL r2) (by rw [ofL_size]; omega)) ?_
          rw [ofL_toList, ofL_size]
          cases hi2 : iriR r2 with
          | some pq =>
            obtain ⟨p, q⟩ := pq
            rw [tpre_iri hi2]
            simp only [preV, val5, if_true]
            have hq := iriR_len hi2
            rw [show wrap64 (((i + 2 : Nat) : Int) + ((r2.length - q.length : Nat) : Int)) = ((s.size - q.length : Nat) : Int) by unfold wrap64; omega, hx]
            exact Ev.now _
          | none =>
            simp only
            rw [dull _ hd]
            cases ht : tpre r2 with
            | none => simp only [preV, zero5, if_neg (show ¬ ((0 : Int) = 1) by decide)]; exact Ev.now _
            | some y =>
              obtain ⟨y, q⟩ := y
              have hk : ¬ y.k = 1 := by
                intro hk
                have := (tpre_k1 ht hk).1
                rw [hi2] at this
                cases this
              exact Ev.congr (fun k => if_neg hk) (Ev.now _)
        simp only [beq_eq_false_iff_ne.mpr h2, Bool.false_eq_true, if_false, if_pos (show (i : Int) < (s.size : Int) by omega), hb, h1, show (((94 : Nat) : Int) == 64) = false from rfl, if_neg h2]
        rw [dull _ hd]
        exact j0f
    rw [if_neg h1]
    have hm : (match a :: r1 with | x :: y :: _ => x == UInt8.ofNat 94 && y == UInt8.ofNat 94 | _ => false) = false := by
      cases r1 with
      | nil => rfl
      | cons b r2 => simp only [toN_eq (show 94 < 256 by decide), beq_eq_false_iff_ne.mpr h1, Bool.false_and]
    simp only [hm, Bool.false_eq_true, if_false, if_pos (show (i : Int) < (s.size : Int) by omega), hb]
    by_cases h2 : a.toNat = 64
    · rw [if_pos h2]
      simp only [h2, show (((64 : Nat) : Int) == 64) = true from rfl]
      refine Ev.step (fun k => by letI : Inhabited TP := ⟨P (k + 1)⟩; rw [term_behind.j0]) ?_
      simp only [if_true, wrap_succ (show i < 9223372036854775807 by omega)]
      have h := lang_loop s hs i hlt x r1 [] (fun k => P (k + 1)) hr
      simp only [List.nil_append, List.length_nil, Nat.add_zero] at h
      have hlr := congrArg List.length hr
      rw [List.length_drop, size_toList] at hlr
      have htd := congrArg List.length (List.takeWhile_append_dropWhile (p := langB) (l := r1))
      rw [List.length_append] at htd
      by_cases h3 : okLang (r1.takeWhile langB) = true
      · rw [if_pos h3] at h ⊢
        unfold val5
        simp only [hx]
        rw [show ofL [] = ⟨#[]⟩ from rfl, show s.size - (r1.dropWhile langB).length = i + 1 + (r1.takeWhile langB).length by omega]
        exact h
      rw [if_neg h3] at h ⊢
      rw [dull _ hd]
      exact h
    rw [if_neg h2]
    simp only [beq_eq_false_iff_ne.mpr (show ¬ ((a.toNat : Int) = 64) by omega)]
    rw [dull _ hd]
    exact j0f

def posE (c : UInt8) : Int := if c.toNat = 34 then 0 else if c.toNat = 92 then 1 else if c.toNat = 110 then 2 else if c.toNat = 116 then 3 else -1
theorem pos_eq (c : UInt8) : strings_IndexByte.f (⟨#[34, 92, 110, 116]⟩ : ByteArray) (c.toNat : Int) = some (posE c) :=
  forall_byte (P := fun c => strings_IndexByte.f (⟨#[34, 92, 110, 116]⟩ : ByteArray) (c.toNat : Int) = some (posE c)) (by decide +kernel) c
theorem unesc_pos (c : UInt8) : match unescB c with
    | some d => ¬ posE c < 0 ∧ 0 ≤ posE c ∧ posE c < 4 ∧ bt (⟨#[34, 92, 10, 9]⟩ : ByteArray) (posE c) = (d.toNat : Int)
    | none => posE c < 0 := by
  have key : ∀ n : Fin 256, (match unescB (UInt8.ofNat n.val) with
    | some d => decide (¬ posE (UInt8.ofNat n.val) < 0) && decide (0 ≤ posE (UInt8.ofNat n.val)) && decide (posE (UInt8.ofNat n.val) < 4) && decide (bt (⟨#[34, 92, 10, 9]⟩ : ByteArray) (posE (UInt8.ofNat n.val)) = (d.toNat : Int))
    | none => decide (posE (UInt8.ofNat n.val) < 0)) = true := by decide +kernel
  refine forall_byte (P := fun c => match unescB c with
    | some d => ¬ posE c < 0 ∧ 0 ≤ posE c ∧ posE c < 4 ∧ bt (⟨#[34, 92, 10, 9]⟩ : ByteArray) (posE c) = (d.toNat : Int)
    | none => posE c < 0) ?_ c
  intro n
  have h := key n
  revert h
  cases unescB (UInt8.ofNat n.val) with
  | none => intro h; exact of_decide_eq_true h
  | some d =>
    intro h
    simp only [Bool.and_eq_true, decide_eq_true_eq] at h
    exact ⟨h.1.1.1, h.1.1.2, h.1.2, h.2⟩
def litV (n : Nat) (acc : List UInt8) : Option (List UInt8 × List UInt8) → Int × ByteArray × ByteArray × ByteArray × Int
  | none => zero5
  | some x => if okText (acc ++ x.1) = true then val5 n (behindR ⟨2, acc ++ x.1, [], []⟩ x.2) else zero5
theorem litV_cons (n : Nat) (acc : List UInt8) (b : UInt8) (o : Option (List UInt8 × List UInt8)) : litV n acc (o.map fun x => (b :: x.1, x.2)) = litV n (acc ++ [b]) o := by
  cases o with
  | none => rfl
  | some x => simp [litV]
theorem lit_loop (s : ByteArray) (hs : s.size ≤ 35184372088832) : ∀ (n : Nat) (r : List UInt8) (i : Nat) (acc : List UInt8) (P : Nat → TP), IHP P s.size → r.length ≤ n → s.data.toList.drop i = r → i ≤ s.size → acc.length ≤ i →
    Ev (fun k => @term_literal.l0 ⟨P k⟩ k s (nat acc) (i : Int)) (litV s.size acc (litR r)) := by
  intro n
  have nil : ∀ (i : Nat) (acc : List UInt8) (P : Nat → TP), s.data.toList.drop i = [] → Ev (fun k => @term_literal.l0 ⟨P k⟩ k s (nat acc) (i : Int)) (litV s.size acc (litR [])) := by
    intro i acc P hd
    have hz := size_of_drop hd
    refine Ev.step (fun k => by letI : Inhabited TP := ⟨P (k + 1)⟩; rw [term_literal.l0]) ?_
    simp only [if_neg (show ¬ ((i : Int) < (s.size : Int)) by omega)]
    refine Ev.step (fun k => by letI : Inhabited TP := ⟨P (k + 1 + 1)⟩; rw [term_literal.j1]) ?_
    simp only [Bool.false_eq_true, if_false, if_pos (show (i : Int) ≥ (s.size : Int) by omega)]
    exact Ev.now _
  induction n with
  | zero =>
    intro r i acc P IH hl hd hi ha
    obtain rfl : r = [] := List.length_eq_zero_iff.1 (Nat.le_zero.1 hl)
    exact nil i acc P hd
  | succ n ih =>
    intro r i acc P IH hl hd hi ha
    cases r with
    | nil => exact nil i acc P hd
    | cons c r =>
      obtain ⟨hb, hlt, hr⟩ := bt_of_drop hd
      have hlen : (nat acc).length < 140737488355328 := by rw [nat_length]; omega
      refine Ev.step (fun k => by letI : Inhabited TP := ⟨P (k + 1)⟩; rw [term_literal.l0]) ?_
      simp only [if_pos (show (i : Int) < (s.size : Int) by omega), if_pos (show (0 : Int) ≤ (i : Int) by omega), hb]
      rw [litR_cons]
      refine Ev.step (fun k => by letI : Inhabited TP := ⟨P (k + 1 + 1)⟩; rw [term_literal.j1]) ?_
      simp only [if_pos (show (i : Int) < (s.size : Int) by omega), if_pos (show (0 : Int) ≤ (i : Int) by omega), hb, wrap_succ (show i < 9223372036854775807 by omega)]
      by_cases h1 : c.toNat = 34
      · simp only [h1, show (((34 : Nat) : Int) != 34) = false from rfl, Bool.false_eq_true, if_false, if_true, if_neg (show ¬ ((i : Int) ≥ (s.size : Int)) by omega), strOfNums_nat]
        refine Ev.bind (isText_ev (ofL acc)) ?_
        rw [ofL_toList]
        unfold litV
        simp only [List.append_nil]
        by_cases h2 : okText acc = true
        · simp only [h2, if_true]
          have h := behind_ev (fun k => P (k + 1 + 1)) s hs IH.shift.shift (i + 1) (by omega) (ofL acc)
          rw [hr, ofL_toList] at h
          refine Ev.bind h ?_
          exact Ev.now _
        simp only [if_neg h2]; exact Ev.now _
      simp only [bne_iff_ne.mpr (show ¬ ((c.toNat : Int) = 34) by omega), if_true, if_neg h1]
      by_cases h2 : c.toNat = 92
      · simp only [h2, show (((92 : Nat) : Int) = 92) from rfl, if_true]
        cases r with
        | nil =>
          have hz := size_of_drop hr
          simp only [if_pos (show ((i + 1 : Nat) : Int) = (s.size : Int) by omega)]
          exact Ev.now _
        | cons d r2 =>
          obtain ⟨hb2, hlt2, hr2⟩ := bt_of_drop hr
          simp only [if_neg (show ¬ (((i + 1 : Nat) : Int) = (s.size : Int)) by omega), if_pos (show (0 : Int) ≤ ((i + 1 : Nat) : Int) by omega), if_pos (show ((i + 1 : Nat) : Int) < (s.size : Int) by omega), hb2, pos_eq, Option.bind_some, wrap_succ (show i + 1 < 9223372036854775807 by omega)]
          have hu := unesc_pos d
          cases hd2 : unescB d with
          | none =>
            rw [hd2] at hu
            simp only [if_pos hu]
            exact Ev.now _
          | some e =>
            rw [hd2] at hu
            obtain ⟨u1, u2, u3, u4⟩ := hu
            simp only [if_neg u1, if_pos u2, if_pos u3, if_pos hlen, u4]
            rw [litV_cons]
            have h := ih r2 (i + 1 + 1) (acc ++ [e]) (fun k => P (k + 1 + 1)) IH.shift.shift (by simp at hl; omega) hr2 (by omega) (by simp; omega)
            rw [nat_append] at h
            exact h
      simp only [if_neg (show ¬ ((c.toNat : Int) = 92) by omega), if_neg h2]
      by_cases h3 : c.toNat = 10
      · simp only [if_pos (show ((c.toNat : Int) = 10) by omega), if_pos (Or.inl h3 : c.toNat = 10 ∨ c.toNat = 9)]
        exact Ev.now _
      simp only [if_neg (show ¬ ((c.toNat : Int) = 10) by omega)]
      by_cases h4 : c.toNat = 9
      · simp only [if_pos (show ((c.toNat : Int) = 9) by omega), if_pos (Or.inr h4 : c.toNat = 10 ∨ c.toNat = 9)]
        exact Ev.now _
      simp only [if_neg (show ¬ ((c.toNat : Int) = 9) by omega), if_neg (show ¬ (c.toNat = 10 ∨ c.toNat = 9) by omega), if_pos hlen]
      rw [litV_cons]
      have h := ih r (i + 1) (acc ++ [c]) (fun k => P (k + 1 + 1)) IH.shift.shift (by simpa using hl) hr (by omega) (by simp; omega)
      rw [nat_append] at h
      exact h
theorem prefix_ev : ∀ (n : Nat) (s : ByteArray), s.size ≤ n → n ≤ 35184372088832 → Ev (fun k => term_Prefix.f k s) (preV s.size (tpre s.data.toList)) := by
  intro n
  induction n with
  | zero =>
    intro s hs _
    have hl : s.data.toList = [] := by
      rw [← List.length_eq_zero_iff, size_toList]; omega
    refine Ev.step (g := fun k => term_Prefix.f k s) (f := fun k => @term_PrefixB.f ⟨PF k⟩ k s) (fun k => rfl) ?_
    unfold term_PrefixB.f
    simp only [tl, hl, if_true]
    exact Ev.now _
  | succ n ih =>
    intro s hs hn
    have IH : IHP PF s.size := fun m hm => ih m (by omega) (by omega)
    refine Ev.step (g := fun k => term_Prefix.f k s) (f := fun k => @term_PrefixB.f ⟨PF k⟩ k s) (fun k => rfl) ?_
    unfold term_PrefixB.f
    simp only [tl]
    cases hl : s.data.toList with
    | nil =>
      simp only [if_true]
      exact Ev.now _
    | cons c r =>
      obtain ⟨hb, hlt, hr⟩ := bt_of_drop (s := s) (i := 0) (by rw [List.drop_zero]; exact hl)
      have hz : s.size = r.length + 1 := by rw [← size_toList, hl]; rfl
      simp only [if_neg (show ¬ (c :: r = []) by simp), if_pos (show (0 : Int) < (s.size : Int) by omega), show bt s 0 = (c.toNat : Int) from hb]
      rw [tpre_cons]
      by_cases h1 : c.toNat = 60
      · simp only [h1, if_pos (show ((60 : Nat) : Int) = 60 from rfl), if_true]
        unfold strings_IndexByte.f
        simp only [Option.bind_some, hl, show (62 : Int).toNat.toUInt8 = 62 from rfl]
        have hci := cutC_index 62 (c :: r)
        have hc0 : cutC 62 (c :: r) = (cutC 62 r).map fun x => (c :: x.1, x.2) := by
          rw [cutC, if_neg (fun e => by rw [e] at h1; cases h1)]
        rcases hci with ⟨e1, e2⟩ | ⟨i, e1, e2, e3⟩
        · rw [e1]
          rw [hc0] at e2
          have e4 : cutC 62 r = none := by simpa using e2
          have e5 : iriR (c :: r) = none := by unfold iriR; simp only [if_pos h1, e4]
          rw [e5]
          simp only [if_neg (show ¬ ((-1 : Int) > 0) by decide)]
          exact Ev.now _
        rw [e1]
        rw [hc0] at e3
        obtain ⟨x, hx, he⟩ := Option.map_eq_some_iff.1 e3
        simp only [Prod.mk.injEq] at he
        obtain ⟨he1, he2⟩ := he
        have hxs := (cutC_some (show cutC 62 r = some (x.1, x.2) from hx)).1
        have hil : i = x.1.length + 1 := by
          have := congrArg List.length he1
          rw [List.length_take, Nat.min_eq_left (Nat.le_of_lt e2)] at this
          simpa using this.symm
        have hrl : r.length = x.1.length + x.2.length + 1 := by
          have := congrArg List.length hxs
          rw [List.length_append, List.length_cons] at this
          omega
        have ee : s.extract 1 i = ofL x.1 := by
          rw [ext_ofL, hl, List.drop_succ_cons, List.drop_zero, hil, Nat.add_sub_cancel, hxs, List.take_left']
          rfl
        simp only [if_pos (show (i : Int) > 0 by omega), if_pos (show (1 : Int) ≤ (i : Int) by omega), if_pos (show (i : Int) ≤ (s.size : Int) by omega), Int.toNat_natCast, ee, isIri_eq, Option.bind_some, ofL_toList]
        have e5 : iriR (c :: r) = if okIri x.1 then some (x.1, x.2) else none := by unfold iriR; simp only [if_pos h1, hx]
        rw [e5]
        by_cases h2 : okIri x.1 = true
        · simp only [h2, if_true, Option.map_some, preV, val5]
          rw [wrap_succ (show i < 9223372036854775807 by omega), show s.size - x.2.length = i + 1 by omega]
          exact Ev.now _
        simp only [if_neg h2, Option.map_none, preV]
        exact Ev.now _
      simp only [if_neg (show ¬ ((c.toNat : Int) = 60) by omega), if_neg h1]
      by_cases h2 : c.toNat = 34
      · simp only [if_pos (show (c.toNat : Int) = 34 by omega), if_pos h2]
        have h := lit_loop s (by omega) r.length r 1 [] PF IH (Nat.le_refl _) hr (by omega) (by simp)
        have e : litV s.size [] (litR r) = preV s.size ((litR r).bind fun x => if okText x.1 then some (behindR ⟨2, x.1, [], []⟩ x.2) else none) := by
          cases litR r with
          | none => rfl
          | some x =>
            simp only [litV, List.nil_append, Option.bind_some]
            by_cases h3 : okText x.1 = true
            · rw [if_pos h3, if_pos h3]; rfl
            rw [if_neg h3, if_neg h3]; rfl
        rw [e] at h
        exact Ev.bind (g := fun k => @term_literal.f ⟨PF k⟩ k s) h (Ev.now _)
      simp only [if_neg (show ¬ ((c.toNat : Int) = 34) by omega), if_neg h2]
      by_cases h3 : c.toNat = 63
      · simp only [if_pos (show (c.toNat : Int) = 63 by omega), if_pos h3, if_pos (show (1 : Int) ≤ (s.size : Int) by omega)]
        have em : s.extract 1 s.size = ofL r := by rw [ext_end, hr]
        rw [em]
        refine Ev.bind (named_ev (ofL r)) ?_
        rw [ofL_toList]
        have hnl := nameN_le r
        by_cases h4 : 0 < nameN r
        · have e1 : wrap64 (1 + ((nameN r : Nat) : Int)) = ((nameN r + 1 : Nat) : Int) := by unfold wrap64; omega
          simp only [if_pos (show ((nameN r : Nat) : Int) > 0 by omega), e1, if_pos (show (1 : Int) ≤ ((nameN r + 1 : Nat) : Int) by omega), if_pos (show ((nameN r + 1 : Nat) : Int) ≤ (s.size : Int) by omega), if_pos h4, Int.toNat_natCast, preV, val5]
          rw [ext_ofL, hr, Nat.add_sub_cancel, List.length_drop, show s.size - (r.length - nameN r) = nameN r + 1 by omega]
          exact Ev.now _
        simp only [if_neg (show ¬ (((nameN r : Nat) : Int) > 0) by omega), if_neg h4, preV]
        exact Ev.now _
      simp only [if_neg (show ¬ ((c.toNat : Int) = 63) by omega), if_neg h3]
      unfold strings_HasPrefix.f
      simp only [Option.bind_some]
      rw [show ([95, 58] : List UInt8) = [UInt8.ofNat 95, UInt8.ofNat 58] from rfl, hasP, hl]
      by_cases h4 : c.toNat = 95
      · simp only [if_pos h4]
        cases r with
        | nil => simp only [Bool.false_eq_true, if_false, preV]; exact Ev.now _
        | cons d r1 =>
          simp only [toN_eq (show 95 < 256 by decide), toN_eq (show 58 < 256 by decide), h4, beq_self_eq_true, Bool.true_and]
          by_cases h5 : d.toNat = 58
          · simp only [h5, beq_self_eq_true, if_true]
            obtain ⟨_, _, hr1⟩ := bt_of_drop hr
            simp only [List.length_cons] at hz
            simp only [if_pos (show (2 : Int) ≤ (s.size : Int) by omega)]
            have em : s.extract 2 s.size = ofL r1 := by rw [ext_end, hr1]
            rw [em]
            refine Ev.bind (named_ev (ofL r1)) ?_
            rw [ofL_toList]
            have hnl := nameN_le r1
            by_cases h6 : 0 < nameN r1
            · have e1 : wrap64 (2 + ((nameN r1 : Nat) : Int)) = ((nameN r1 + 2 : Nat) : Int) := by unfold wrap64; omega
              simp only [if_pos (show ((nameN r1 : Nat) : Int) > 0 by omega), e1, if_pos (show (2 : Int) ≤ ((nameN r1 + 2 : Nat) : Int) by omega), if_pos (show ((nameN r1 + 2 : Nat) : Int) ≤ (s.size : Int) by omega), if_pos h6, Int.toNat_natCast, preV, val5]
              rw [ext_ofL, hr1, Nat.add_sub_cancel, List.length_drop, show s.size - (r1.length - nameN r1) = nameN r1 + 2 by omega]
              exact Ev.now _
            simp only [if_neg (show ¬ (((nameN r1 : Nat) : Int) > 0) by omega), if_neg h6, preV]
            exact Ev.now _
          simp only [beq_eq_false_iff_ne.mpr h5, Bool.false_eq_true, if_false, if_neg h5, preV]
          exact Ev.now _
      have hm : (match c :: r with | x :: y :: _ => x == UInt8.ofNat 95 && y == UInt8.ofNat 58 | _ => false) = false := by
        cases r with
        | nil => rfl
        | cons d r1 => simp only [toN_eq (show 95 < 256 by decide), beq_eq_false_iff_ne.mpr h4, Bool.false_and]
      simp only [hm, Bool.false_eq_true, if_false, if_neg h4, preV]
      exact Ev.now _
def readV : Option Tm → Int × ByteArray × ByteArray × ByteArray × Int
  | some t => (t.k, ofL t.x, ofL t.ty, ofL t.la, 0)
  | none => (0, ⟨#[]⟩, ⟨#[]⟩, ⟨#[]⟩, 2)
end Go.Proofs.YtgabadlneeffkaaGreatDoor.G

/- What result.Get comes to at the bytes of a right reply: the reply. -/
namespace Go.Proofs.YtgabadlneeffkaaGreatDoor.G
open Go.RowKit Go.Lib Go.Proofs.YtgabadlneeffkaaGreatDoor Go.Proofs.YtgabadlneeffkaaGreatDoorW.PrintWords Go.Proofs.YtgabadlneeffkaaGreatDoorW.PrintLast
set_option linter.unusedVariables false
set_option linter.unusedSimpArgs false

theorem splitC_join : ∀ l : List (List UInt8), l ≠ [] → (∀ x ∈ l, (9 : UInt8) ∉ x) → splitC 9 (joinT l) = l
  | [], h, _ => absurd rfl h
  | [a], _, h => splitC_miss 9 a (h a (by simp))
  | a :: b :: r, _, h => by
    rw [joinT_cons, splitC_hit 9 a _ (h a (by simp)), splitC_join (b :: r) (by simp) (fun x hx => h x (List.mem_cons_of_mem _ hx))]
theorem splitC_unl : ∀ l : List (List UInt8), (∀ x ∈ l, (10 : UInt8) ∉ x) → splitC 10 (unl l) = l ++ [[]]
  | [], _ => rfl
  | a :: r, h => by
    rw [unl_cons, splitC_hit 10 a _ (h a (by simp)), splitC_unl r (fun x hx => h x (List.mem_cons_of_mem _ hx))]
    rfl
theorem split_eq (l : List UInt8) (c : UInt8) (h : l.length < 4294967281) : strings_Split.f (ofL l) (ofL [c]) = some ((splitC c l).map ofL) := by
  unfold strings_Split.f
  rw [if_pos ⟨by rw [ofL_size]; exact h, by rw [ofL_size]; simp⟩, splitB_eq, ofL_toList]
theorem split_eq' (s : ByteArray) (c : UInt8) (h : s.size < 4294967281) : strings_Split.f s (ofL [c]) = some ((splitC c s.data.toList).map ofL) := by
  have := split_eq s.data.toList c (by rw [size_toList]; exact h)
  rwa [ofL_data] at this

/-! ### what holds neither a tab nor a line feed -/
def clean (l : List UInt8) : Prop := (9 : UInt8) ∉ l ∧ (10 : UInt8) ∉ l
theorem clean_all {p : UInt8 → Bool} {l : List UInt8} (h : l.all p = true) (h9 : p 9 = false) (h10 : p 10 = false) : clean l := ⟨all_not_mem h h9, all_not_mem h h10⟩
theorem clean_nil : clean [] := ⟨by simp, by simp⟩
theorem clean_cons {a : UInt8} {l : List UInt8} (h9 : a ≠ 9) (h10 : a ≠ 10) (h : clean l) : clean (a :: l) := ⟨by simp only [List.mem_cons, not_or]; exact ⟨Ne.symm h9, h.1⟩, by simp only [List.mem_cons, not_or]; exact ⟨Ne.symm h10, h.2⟩⟩
theorem clean_app {a b : List UInt8} (h : clean a) (k : clean b) : clean (a ++ b) := ⟨by simp only [List.mem_append, not_or]; exact ⟨h.1, k.1⟩, by simp only [List.mem_append, not_or]; exact ⟨h.2, k.2⟩⟩
theorem clean_iri {l : List UInt8} (h : okIri l = true) : clean l := clean_all (okIri_all h) (by decide) (by decide)
theorem clean_name {l : List UInt8} (h : okName l = true) : clean l := by
  rw [okName_all] at h
  simp only [Bool.and_eq_true] at h
  exact clean_all h.1.2 (by decide) (by decide)
theorem clean_lang {l : List UInt8} (h : okLang l = true) : clean l := clean_all (okLang_all h) (by decide) (by decide)
theorem clean_escB (b : UInt8) : clean (escB b) := by
  refine forall_byte (P := fun b => clean (escB b)) ?_ b
  unfold clean
  decide +kernel
theorem clean_esc (l : List UInt8) : clean (esc l) := by
  induction l with
  | nil => exact clean_nil
  | cons b l ih => exact clean_app (clean_escB b) ih
theorem clean_text {t : Tm} (h : okTm t = true) : clean (ttext t) := by
  by_cases hk : t.k = 2
  · obtain ⟨h1, h2, h3⟩ := okTm_two h hk
    have e : ttext t = 34 :: (esc t.x ++ 34 :: tail2 t) := by unfold ttext; rw [if_neg (by omega), if_neg (by omega), if_neg (by omega), if_pos hk]
    rw [e]
    refine clean_cons (by decide) (by decide) (clean_app (clean_esc _) (clean_cons (by decide) (by decide) ?_))
    unfold tail2
    refine clean_app ?_ ?_
    · split
      · exact clean_nil
      rename_i hne
      have hi : okIri t.ty = true := by
        rcases h2 with h2 | h2
        · rw [h2] at hne; exact absurd rfl hne
        exact h2.1
      exact clean_cons (by decide) (by decide) (clean_cons (by decide) (by decide) (clean_cons (by decide) (by decide) (clean_app (clean_iri hi) (clean_cons (by decide) (by decide) clean_nil))))
    split
    · exact clean_nil
    rename_i hne
    have hi : okLang t.la = true := by
      rcases h3 with h3 | h3
      · rw [h3] at hne; exact absurd rfl hne
      exact h3
    exact clean_cons (by decide) (by decide) (clean_lang hi)
  obtain ⟨_, _, _, _, h1, h34, hc⟩ := okTm_other h hk
  unfold ttext
  split
  · rename_i k1
    exact clean_cons (by decide) (by decide) (clean_app (clean_iri (h1 k1)) (clean_cons (by decide) (by decide) clean_nil))
  split
  · rename_i k3
    exact clean_cons (by decide) (by decide) (clean_cons (by decide) (by decide) (clean_name (h34 (.inl k3))))
  split
  · rename_i k4
    exact clean_cons (by decide) (by decide) (clean_name (h34 (.inr k4)))
  exact clean_nil
theorem noten_join : ∀ l : List (List UInt8), (∀ x ∈ l, clean x) → (10 : UInt8) ∉ joinT l
  | [], _ => by simp [joinT]
  | [a], h => (h a (by simp)).2
  | a :: b :: r, h => by
    rw [joinT_cons]
    simp only [List.mem_append, List.mem_cons, not_or]
    exact ⟨(h a (by simp)).2, by decide, noten_join (b :: r) (fun x hx => h x (List.mem_cons_of_mem _ hx))⟩
theorem dd_clean (n : Nat) (h : n < 4096) : clean (dd n) := by
  have key : ∀ a b : Fin 64, (dd (64 * a.val + b.val)).all (fun c => c != 9 && c != 10) = true := by decide +kernel
  have := key ⟨n / 64, by omega⟩ ⟨n % 64, by omega⟩
  simp only at this
  rw [show 64 * (n / 64) + n % 64 = n by omega] at this
  exact clean_all this (by decide) (by decide)

/-! ### reading a right term's text -/
theorem val_of (t : S43) : readV (some (T t)) = (t.f0, t.f1, t.f2, t.f3, 0) := by
  unfold readV T TT
  simp only [ofL_data]
theorem read_ev {t : S43} (h : okTm (T t) = true) : Ev (fun k => term_Read.f k (ofL (ttext (T t)))) (t.f0, t.f1, t.f2, t.f3, 0) := by
  have hl := ttext_len h
  unfold term_Read.f
  refine Ev.bind (prefix_ev 20000 (ofL (ttext (T t))) (by rw [ofL_size]; exact hl) (by omega)) ?_
  rw [ofL_toList, ofL_size]
  by_cases h0 : (T t).k = 0
  · have e : T t = tm0 := by
      obtain ⟨h1, h2, _, h3, _⟩ := okTm_other h (by omega)
      have := h3 h0
      revert h0 h1 h2 this
      generalize T t = x
      intro h0 h1 h2 h3
      obtain ⟨k, x, ty, la⟩ := x
      simp only at h0 h1 h2 h3
      subst h0 h1 h2 h3
      rfl
    have hv := val_of t
    rw [e] at hv
    rw [e, show ttext tm0 = [] from rfl]
    refine Ev.congr (fun k => if_pos rfl) ?_
    show Ev (fun _ => some (readV (some tm0))) _
    rw [hv]
    exact Ev.now _
  rw [tpre_text h h0]
  have hv := val_of t
  unfold readV at hv
  simp only at hv
  simp only [preV, val5, List.length_nil, Nat.sub_zero, if_true]
  rw [hv]
  exact Ev.now _

/-! ### rows -/
theorem cells_ev (vars : List ByteArray) (Y : List ByteArray) (i : Nat) (hi : i < 9223372036854775807) (accR : List (List S43)) (hR : accR.length < 5864062014805) (row : List S43) (hrow : row.length ≤ 32) (hc : row.all cellOK = true)
    (v : List ByteArray × List (List S43) × Bool) (hn : Ev (fun k => result_rows.l1 k Y (Y.length : Int) ((i + 1 : Nat) : Int) vars (accR ++ [row])) v) :
    ∀ (r acc : List S43), row = acc ++ r →
    Ev (fun k => result_rows.l2 k acc Y (Y.length : Int) (i : Int) (row.map fun t => ofL (ttext (T t))) ((row.map fun t => ofL (ttext (T t))).length : Int) (acc.length : Int) vars accR) v := by
  intro r
  induction r with
  | nil =>
    intro acc hd
    rw [List.append_nil] at hd
    subst hd
    refine Ev.step (fun k => by rw [result_rows.l2]) ?_
    simp only [List.length_map, if_neg (show ¬ ((row.length : Int) < (row.length : Int)) by omega), if_pos hR, wrap_succ hi]
    exact hn
  | cons c r ih =>
    intro acc hd
    have hl : row.length = acc.length + r.length + 1 := by rw [hd]; simp; omega
    have hmem : c ∈ row := by rw [hd]; simp
    have hcc := cellOK_tm (List.all_eq_true.1 hc c hmem)
    have hg : rdOf ByteArray.empty (row.map fun t => ofL (ttext (T t))) (acc.length : Int) = ofL (ttext (T c)) := by
      unfold rdOf
      rw [Int.toNat_natCast, List.getD_eq_getElem?_getD, List.getElem?_map, hd, List.getElem?_append_right (Nat.le_refl _)]
      simp
    refine Ev.step (fun k => by rw [result_rows.l2]) ?_
    simp only [List.length_map, if_pos (show (acc.length : Int) < (row.length : Int) by omega), if_pos (show (0 : Int) ≤ (acc.length : Int) by omega), hg, wrap_succ (show acc.length < 9223372036854775807 by omega)]
    refine Ev.bind (read_ev hcc.1) ?_
    simp only [if_true, if_pos (show acc.length < 2513169434916 by omega)]
    have h := ih (acc ++ [c]) (by rw [List.append_assoc]; exact hd)
    simp only [List.length_map, List.length_append, List.length_singleton] at h
    exact h
theorem split_row (row : List S43) (n : Nat) (hl : row.length = n) (hn : n ≤ 32) (hc : row.all cellOK = true) : result_split.f (ofL (rowL row)) (n : Int) = some (row.map fun t => ofL (ttext (T t))) := by
  unfold result_split.f
  have hcl : ∀ x ∈ row.map (fun t => ttext (T t)), clean x := by
    intro x hx
    obtain ⟨t, ht, rfl⟩ := List.mem_map.1 hx
    exact clean_text (cellOK_tm (List.all_eq_true.1 hc t ht)).1
  have hlen : (rowL row).length < 4294967281 := by
    have := joinT_len 20000 (row.map fun t => ttext (T t)) (by
      intro x hx
      obtain ⟨t, ht, rfl⟩ := List.mem_map.1 hx
      exact ttext_len (cellOK_tm (List.all_eq_true.1 hc t ht)).1)
    rw [List.length_map] at this
    have h2 : row.length * (20000 + 1) ≤ 32 * 20001 := Nat.mul_le_mul_right _ (by omega)
    exact Nat.lt_of_le_of_lt (Nat.le_trans this h2) (by decide)
  by_cases h0 : n = 0
  · have : row = [] := List.length_eq_zero_iff.1 (by omega)
    subst this
    simp only [if_pos (show (n : Int) = 0 by omega), tl, ofL_toList]
    rw [if_pos (show rowL [] = ([] : List UInt8) from rfl)]
    rfl
  simp only [if_neg (show ¬ ((n : Int) = 0) by omega)]
  rw [show (⟨#[9]⟩ : ByteArray) = ofL [9] from rfl, split_eq _ _ hlen]
  unfold rowL
  rw [splitC_join _ (by
    intro e
    have := congrArg List.length e
    rw [List.length_map] at this
    simp at this
    rw [this] at hl
    simp at hl
    omega) (fun x hx => (hcl x hx).1), Option.bind_some, List.map_map]
  rfl
theorem lines_ev (vars : List ByteArray) (hv : vars.length ≤ 32) (rows : List (List S43)) (hrows : rows.length ≤ 1024) (hok : rows.all (rowOK vars.length) = true) : ∀ (r acc : List (List S43)), rows = acc ++ r →
    Ev (fun k => result_rows.l1 k (rows.map fun row => ofL (rowL row)) ((rows.map fun row => ofL (rowL row)).length : Int) (acc.length : Int) vars acc) (vars, rows, true) := by
  intro r
  induction r with
  | nil =>
    intro acc hd
    rw [List.append_nil] at hd
    subst hd
    refine Ev.step (fun k => by rw [result_rows.l1]) ?_
    simp only [List.length_map, if_neg (show ¬ ((rows.length : Int) < (rows.length : Int)) by omega)]
    exact Ev.now _
  | cons row r ih =>
    intro acc hd
    have hl : rows.length = acc.length + r.length + 1 := by rw [hd]; simp; omega
    have hmem : row ∈ rows := by rw [hd]; simp
    have hro := List.all_eq_true.1 hok row hmem
    unfold rowOK at hro
    rw [Bool.and_eq_true, beq_iff_eq] at hro
    have hg : rdOf ByteArray.empty (rows.map fun row => ofL (rowL row)) (acc.length : Int) = ofL (rowL row) := by
      unfold rdOf
      rw [Int.toNat_natCast, List.getD_eq_getElem?_getD, List.getElem?_map, hd, List.getElem?_append_right (Nat.le_refl _)]
      simp
    refine Ev.step (fun k => by rw [result_rows.l1]) ?_
    simp only [List.length_map, if_pos (show (acc.length : Int) < (rows.length : Int) by omega), if_pos (show (0 : Int) ≤ (acc.length : Int) by omega), hg, split_row row vars.length hro.1 hv hro.2, Option.bind_some]
    have h := ih (acc ++ [row]) (by rw [List.append_assoc]; exact hd)
    simp only [List.length_append, List.length_singleton] at h
    have := cells_ev vars (rows.map fun row => ofL (rowL row)) acc.length (by omega) acc (by omega) row (by omega) hro.2 _ h row [] rfl
    simp only [List.length_map] at this
    exact this
theorem names_ev (X : List ByteArray) (vars : List ByteArray) (hv : vars.length ≤ 32) (v : List ByteArray × List (List S43) × Bool) (hn : Ev (fun k => result_rows.j1 k X vars) v) : ∀ (r acc : List ByteArray), vars = acc ++ r →
    Ev (fun k => result_rows.l0 k X (((B vars).map (63 :: ·)).map ofL) ((((B vars).map (63 :: ·)).map ofL).length : Int) (acc.length : Int) acc) v := by
  intro r
  induction r with
  | nil =>
    intro acc hd
    rw [List.append_nil] at hd
    subst hd
    refine Ev.step (fun k => by rw [result_rows.l0]) ?_
    simp only [List.length_map, B_len, if_neg (show ¬ ((vars.length : Int) < (vars.length : Int)) by omega)]
    exact hn
  | cons c r ih =>
    intro acc hd
    have hl : vars.length = acc.length + r.length + 1 := by rw [hd]; simp; omega
    have hg : rdOf ByteArray.empty (((B vars).map (63 :: ·)).map ofL) (acc.length : Int) = ofL (63 :: c.data.toList) := by
      unfold rdOf B
      rw [Int.toNat_natCast, List.getD_eq_getElem?_getD, List.getElem?_map, List.getElem?_map, List.getElem?_map, hd, List.getElem?_append_right (Nat.le_refl _)]
      simp
    refine Ev.step (fun k => by rw [result_rows.l0]) ?_
    have hp : strings_HasPrefix.f (ofL (63 :: c.data.toList)) (⟨#[63]⟩ : ByteArray) = some true := by
      unfold strings_HasPrefix.f
      rw [ofL_toList]
      simp [Lib.hasPrefix, List.isPrefixOf]
    have he : (ofL (63 :: c.data.toList)).extract 1 (ofL (63 :: c.data.toList)).size = c := by
      rw [ext_end, ofL_toList, List.drop_succ_cons, List.drop_zero, ofL_data]
    simp only [List.length_map, B_len, if_pos (show (acc.length : Int) < (vars.length : Int) by omega), if_pos (show (0 : Int) ≤ (acc.length : Int) by omega), hg, hp, Option.bind_some, if_true, he, if_pos (show acc.length < 8796093022208 by omega), wrap_succ (show acc.length < 9223372036854775807 by omega)]
    simp only [if_pos (show (1 : Int) ≤ ((ofL (63 :: c.data.toList)).size : Int) by rw [ofL_size, List.length_cons]; omega)]
    have h := ih (acc ++ [c]) (by rw [List.append_assoc]; exact hd)
    simp only [List.length_map, B_len, List.length_append, List.length_singleton] at h
    exact h
theorem rows_ev (vars : List ByteArray) (hv : vars.length ≤ 32) (hnm : ∀ x ∈ B vars, okName x = true) (rows : List (List S43)) (hrows : rows.length ≤ 1024) (hok : rows.all (rowOK vars.length) = true) :
    Ev (fun k => result_rows.f k ((joinT ((B vars).map (63 :: ·)) :: rows.map rowL).map ofL)) (vars, rows, true) := by
  unfold result_rows.f
  have hx : (joinT ((B vars).map (63 :: ·)) :: rows.map rowL).map ofL = ofL (joinT ((B vars).map (63 :: ·))) :: rows.map fun row => ofL (rowL row) := by
    rw [List.map_cons, List.map_map]; rfl
  rw [hx]
  have h0 : rdOf ByteArray.empty (ofL (joinT ((B vars).map (63 :: ·))) :: rows.map fun row => ofL (rowL row)) 0 = ofL (joinT ((B vars).map (63 :: ·))) := rfl
  have hz : (0 : Int) < ((ofL (joinT ((B vars).map (63 :: ·))) :: rows.map fun row => ofL (rowL row)).length : Int) := by rw [List.length_cons]; omega
  have hj : Ev (fun k => result_rows.j1 k (ofL (joinT ((B vars).map (63 :: ·))) :: rows.map fun row => ofL (rowL row)) vars) (vars, rows, true) := by
    refine Ev.step (fun k => by rw [result_rows.j1]) ?_
    simp only [if_pos (show (1 : Int) ≤ ((ofL (joinT ((B vars).map (63 :: ·))) :: rows.map fun row => ofL (rowL row)).length : Int) by omega), List.drop_succ_cons, List.drop_zero, Option.bind_some]
    exact lines_ev vars hv rows hrows hok rows [] rfl
  simp only [if_neg (show ¬ (((ofL (joinT ((B vars).map (63 :: ·))) :: rows.map fun row => ofL (rowL row)).length : Int) = 0) by omega), if_pos hz, h0, tl, ofL_toList]
  by_cases hvz : vars = []
  · subst hvz
    simp only [show joinT ((B []).map (63 :: ·)) = [] from rfl, if_true]
    exact hj
  have hne : (B vars).map (63 :: ·) ≠ [] := by
    intro e
    have := congrArg List.length e
    rw [List.length_map, B_len] at this
    exact hvz (List.length_eq_zero_iff.1 this)
  have hcl : ∀ x ∈ (B vars).map (63 :: ·), clean x := by
    intro x hx
    obtain ⟨y, hy, rfl⟩ := List.mem_map.1 hx
    exact clean_cons (by decide) (by decide) (clean_name (hnm y hy))
  have hjn : joinT ((B vars).map (63 :: ·)) ≠ [] := by
    cases hb : (B vars).map (63 :: ·) with
    | nil => exact absurd hb hne
    | cons a r =>
      have ha : a ≠ [] := by
        have : a ∈ (B vars).map (63 :: ·) := by rw [hb]; simp
        obtain ⟨y, _, rfl⟩ := List.mem_map.1 this
        simp
      cases r with
      | nil => exact ha
      | cons b r => rw [joinT_cons]; simp
  have hlen : (joinT ((B vars).map (63 :: ·))).length < 4294967281 := by
    have := joinT_len 40 ((B vars).map (63 :: ·)) (by
      intro x hx
      obtain ⟨y, hy, rfl⟩ := List.mem_map.1 hx
      have := (okName_len (hnm y hy)).1
      simp
      omega)
    rw [List.length_map, B_len] at this
    omega
  simp only [if_neg hjn]
  rw [show (⟨#[9]⟩ : ByteArray) = ofL [9] from rfl, split_eq _ _ hlen, splitC_join _ hne (fun x hx => (hcl x hx).1)]
  simp only [Option.bind_some]
  exact names_ev _ vars hv _ hj vars [] rfl

/-! ### Get -/
theorem atoi_of (n : Nat) (h : n < 4096) : atoiV (ofL (dd n)) = (n : Int) ∧ atoiOk (ofL (dd n)) = true := by
  unfold atoiV atoiOk
  rw [ofL_toList, atoi_dd n h]
  exact ⟨rfl, rfl⟩
theorem lines_clean {a0 a1 : Int} {vars : List ByteArray} {rows : List (List S43)} {tr : Bool} {er : Int} (h : chk a0 a1 vars rows tr er = 0) : ∀ x ∈ linesOf a0.toNat a1 vars rows tr er.toNat, (10 : UInt8) ∉ x := by
  obtain ⟨p1, p2, hk⟩ := chk_zero h
  intro x hx
  unfold linesOf at hx
  rcases List.mem_cons.1 hx with rfl | hx
  · exact (dd_clean _ (by omega)).2
  rcases hk with ⟨k1, k2, k3, k4, k5⟩ | ⟨k1, k2, k3, k4⟩ | ⟨k1, k2, k3, k4, k5, k6⟩
  · rw [if_neg (by omega), if_neg (by omega)] at hx
    obtain ⟨v1, v2, v3⟩ := rightR_all k4
    rcases List.mem_cons.1 hx with rfl | hx
    · decide
    rcases List.mem_cons.1 hx with rfl | hx
    · refine noten_join _ ?_
      intro x hx
      obtain ⟨y, hy, rfl⟩ := List.mem_map.1 hx
      exact clean_cons (by decide) (by decide) (clean_name (v2 y hy))
    obtain ⟨row, hrow, rfl⟩ := List.mem_map.1 hx
    have hro := List.all_eq_true.1 v3 row hrow
    unfold rowOK at hro
    rw [Bool.and_eq_true] at hro
    refine noten_join _ ?_
    intro x hx
    obtain ⟨t, ht, rfl⟩ := List.mem_map.1 hx
    exact clean_text (cellOK_tm (List.all_eq_true.1 hro.2 t ht)).1
  · rw [if_pos k1] at hx
    rcases List.mem_cons.1 hx with rfl | hx
    · cases tr <;> decide
    cases hx
  rw [if_neg (by omega), if_pos k1] at hx
  rcases List.mem_cons.1 hx with rfl | hx
  · have := (dd_clean er.toNat (by omega)).2
    simp only [List.mem_append, not_or]
    exact ⟨by decide, this⟩
  cases hx
theorem get_ev {a0 a1 : Int} {vars : List ByteArray} {rows : List (List S43)} {tr : Bool} {er : Int} (h : chk a0 a1 vars rows tr er = 0) (hl : (bytesL a0.toNat a1 vars rows tr er.toNat).length ≤ 65536) :
    Ev (fun k => result_Get.f k (ofL (bytesL a0.toNat a1 vars rows tr er.toNat))) (a0, a1, vars, rows, tr, er, 0) := by
  obtain ⟨p1, p2, hk⟩ := chk_zero h
  have hrl : rows.length ≤ 9223372036854775807 := by
    rcases hk with hk | hk | hk
    · omega
    · rw [hk.2.2.1]; simp
    rw [hk.2.2.1]; simp
  have hput := put_ev a0 a1 vars rows hrl tr er
  rw [if_pos h, finL, if_neg (by omega)] at hput
  have hsp := split_eq (bytesL a0.toNat a1 vars rows tr er.toNat) 10 (by omega)
  rw [show splitC 10 (bytesL a0.toNat a1 vars rows tr er.toNat) = linesOf a0.toNat a1 vars rows tr er.toNat ++ [[]] from splitC_unl _ (lines_clean h), show ofL [10] = (⟨#[10]⟩ : ByteArray) from rfl] at hsp
  have hll : 2 ≤ (linesOf a0.toNat a1 vars rows tr er.toNat).length ∧ (linesOf a0.toNat a1 vars rows tr er.toNat).length ≤ 4611686018427387900 := by
    unfold linesOf
    split
    · simp
    split
    · simp
    simp only [List.length_cons, List.length_map]; omega
  unfold result_Get.f
  rw [ofL_size]
  simp only [if_neg (show ¬ (((bytesL a0.toNat a1 vars rows tr er.toNat).length : Int) > 65536) by omega), hsp, Option.bind_some]
  have e1 : ((linesOf a0.toNat a1 vars rows tr er.toNat ++ [[]]).map ofL).length = (linesOf a0.toNat a1 vars rows tr er.toNat).length + 1 := by simp
  have e2 : rdOf ByteArray.empty ((linesOf a0.toNat a1 vars rows tr er.toNat ++ [[]]).map ofL) ((((linesOf a0.toNat a1 vars rows tr er.toNat).length + 1 : Nat) : Int) - 1) = ofL [] := by
    unfold rdOf
    rw [show ((((linesOf a0.toNat a1 vars rows tr er.toNat).length + 1 : Nat) : Int) - 1).toNat = (linesOf a0.toNat a1 vars rows tr er.toNat).length by omega, List.getD_eq_getElem?_getD, List.getElem?_map, List.getElem?_append_right (Nat.le_refl _)]
    simp
  have e3 : ((linesOf a0.toNat a1 vars rows tr er.toNat ++ [[]]).map ofL).take ((linesOf a0.toNat a1 vars rows tr er.toNat).length + 1 - 1) = (linesOf a0.toNat a1 vars rows tr er.toNat).map ofL := by
    rw [List.map_append, Nat.add_sub_cancel, List.take_left' (by rw [List.length_map])]
  rw [e1]
  simp only [if_pos (show (linesOf a0.toNat a1 vars rows tr er.toNat).length + 1 < 4611686018427387904 by omega), if_neg (show ¬ ((((linesOf a0.toNat a1 vars rows tr er.toNat).length + 1 : Nat) : Int) < 3) by omega), e2, e3, tl, ofL_toList, if_true]
  unfold getRest
  have r0 : rdOf ByteArray.empty ((linesOf a0.toNat a1 vars rows tr er.toNat).map ofL) 0 = ofL (dd a0.toNat) := rfl
  obtain ⟨at1, at2⟩ := atoi_of a0.toNat (by omega)
  have dl := dd_len a0.toNat
  rw [r0, at1, at2]
  simp only [if_pos (show (ofL (dd a0.toNat)).size ≤ 281474976710656 by rw [ofL_size]; omega)]
  rw [show ((a0.toNat : Nat) : Int) = a0 by omega]
  have fin : ∀ (w : Int × List ByteArray × List (List S43) × Bool × Int × Bool), w = (a1, vars, rows, tr, er, true) →
      Ev (fun k => (result_Put.f k a0 w.1 w.2.1 w.2.2.1 w.2.2.2.1 w.2.2.2.2.1).bind fun y => if w.2.2.2.2.2 = true ∧ y.2 = 0 ∧ y.1.toList = (ofL (bytesL a0.toNat a1 vars rows tr er.toNat)).toList then some (a0, w.1, w.2.1, w.2.2.1, w.2.2.2.1, w.2.2.2.2.1, (0 : Int)) else some (0, 0, [], [], false, 0, 2)) (a0, a1, vars, rows, tr, er, 0) := by
    rintro w rfl
    refine Ev.bind hput ?_
    exact Ev.congr (fun k => if_pos ⟨rfl, rfl, rfl⟩) (Ev.now _)
  rcases hk with ⟨k1, k2, k3, k4, k5⟩ | ⟨k1, k2, k3, k4⟩ | ⟨k1, k2, k3, k4, k5, k6⟩
  · obtain ⟨v1, v2, v3⟩ := rightR_all k4
    have el : linesOf a0.toNat a1 vars rows tr er.toNat = dd a0.toNat :: [114, 111, 119, 115] :: (joinT ((B vars).map (63 :: ·)) :: rows.map rowL) := by
      unfold linesOf; rw [if_neg (by omega), if_neg (by omega)]
    refine Ev.bind (a := (a1, vars, rows, tr, er, true)) ?_ (fin _ rfl)
    rw [el]
    unfold getMid
    have r1 : rdOf ByteArray.empty ((dd a0.toNat :: [114, 111, 119, 115] :: (joinT ((B vars).map (63 :: ·)) :: rows.map rowL)).map ofL) 1 = ofL [114, 111, 119, 115] := rfl
    have r2 : ((dd a0.toNat :: [114, 111, 119, 115] :: (joinT ((B vars).map (63 :: ·)) :: rows.map rowL)).map ofL).drop 2 = (joinT ((B vars).map (63 :: ·)) :: rows.map rowL).map ofL := rfl
    rw [r1, r2]
    simp only [tl, ofL_toList, if_true]
    refine Ev.bind (rows_ev vars v1 v2 rows k5 v3) ?_
    simp only [Bool.and_self]
    rw [k1, k2, k3]
    exact Ev.now _
  · have el : linesOf a0.toNat a1 vars rows tr er.toNat = [dd a0.toNat, if tr then [116, 114, 117, 101] else [102, 97, 108, 115, 101]] := by
      unfold linesOf; rw [if_pos k1]
    refine Ev.bind (a := (a1, vars, rows, tr, er, true)) ?_ (fin _ rfl)
    rw [el]
    unfold getMid
    have r1 : rdOf ByteArray.empty ([dd a0.toNat, if tr then [116, 114, 117, 101] else [102, 97, 108, 115, 101]].map ofL) 1 = ofL (if tr then [116, 114, 117, 101] else [102, 97, 108, 115, 101]) := rfl
    rw [r1]
    simp only [tl, ofL_toList]
    subst k1 k2 k3 k4
    cases tr with
    | true =>
      simp only [if_true]
      exact Ev.congr (fun k => (if_neg (by decide)).trans (if_neg (by decide))) (Ev.now _)
    | false =>
      simp only [Bool.false_eq_true, if_false]
      exact Ev.congr (fun k => (if_neg (by decide)).trans (if_neg (by decide))) (Ev.now _)
  have el : linesOf a0.toNat a1 vars rows tr er.toNat = [dd a0.toNat, [101, 114, 114, 111, 114, 32] ++ dd er.toNat] := by
    unfold linesOf; rw [if_neg (by omega), if_pos k1]
  refine Ev.bind (a := (a1, vars, rows, tr, er, true)) ?_ (fin _ rfl)
  rw [el]
  unfold getMid
  have r1 : rdOf ByteArray.empty ([dd a0.toNat, [101, 114, 114, 111, 114, 32] ++ dd er.toNat].map ofL) 1 = ofL ([101, 114, 114, 111, 114, 32] ++ dd er.toNat) := rfl
  rw [r1]
  simp only [tl, ofL_toList]
  obtain ⟨bt1, bt2⟩ := atoi_of er.toNat (by omega)
  have hp : Lib.hasPrefix ([101, 114, 114, 111, 114, 32] ++ dd er.toNat) [101, 114, 114, 111, 114, 32] = true := by
    simp [Lib.hasPrefix, List.isPrefixOf]
  have hx : (ofL ([101, 114, 114, 111, 114, 32] ++ dd er.toNat)).extract 6 (ofL ([101, 114, 114, 111, 114, 32] ++ dd er.toNat)).size = ofL (dd er.toNat) := by
    rw [ext_end, ofL_toList]; rfl
  have dl2 := dd_len er.toNat
  simp only [hx, bt1, bt2, hp, if_true]
  rw [show ((er.toNat : Nat) : Int) = er by omega]
  subst k1 k2 k3 k4
  exact Ev.congr (fun k => (if_neg (by simp)).trans (if_pos ⟨by rw [ofL_size]; simp, by rw [ofL_size]; omega⟩)) (Ev.now _)
/-- the program answers -/
theorem awake_ev : Ev (fun k => legationlaw17_awake.f k) true := by
  have hc : chk 7 1 [ofL [120], ofL [121]] [[⟨1, ofL [97], ofL [], ofL []⟩, ⟨0, ofL [], ofL [], ofL []⟩]] false 0 = 0 := by decide +kernel
  have hb : bytesL (7 : Int).toNat 1 [ofL [120], ofL [121]] [[⟨1, ofL [97], ofL [], ofL []⟩, ⟨0, ofL [], ofL [], ofL []⟩]] false (0 : Int).toNat = [55, 10, 114, 111, 119, 115, 10, 63, 120, 9, 63, 121, 10, 60, 97, 62, 9, 10] := by decide +kernel
  have h := get_ev hc (by rw [hb]; decide)
  rw [hb] at h
  unfold legationlaw17_awake.f
  refine Ev.bind h ?_
  refine Ev.congr (f := fun _ => some true) (fun k => ?_) (Ev.now _)
  simp only [tl]
  rfl
end Go.Proofs.YtgabadlneeffkaaGreatDoor.G

/- What result.Get comes to at any bytes: something; and where it errs not, Put gives the bytes back. -/
namespace Go.Proofs.YtgabadlneeffkaaGreatDoor.G
open Go.RowKit Go.Lib Go.Proofs.YtgabadlneeffkaaGreatDoor Go.Proofs.YtgabadlneeffkaaGreatDoorW.PrintWords Go.Proofs.YtgabadlneeffkaaGreatDoorW.PrintLast
set_option linter.unusedVariables false
set_option linter.unusedSimpArgs false
theorem splitC_le (c : UInt8) : ∀ (l x : List UInt8), x ∈ splitC c l → x.length ≤ l.length
  | [], x, h => by simp [splitC] at h; simp [h]
  | b :: r, x, h => by
    unfold splitC at h
    by_cases e : b = c
    · rw [if_pos e] at h
      rcases List.mem_cons.1 h with rfl | h
      · simp
      have := splitC_le c r x h
      rw [List.length_cons]; omega
    rw [if_neg e] at h
    split at h
    · rename_i y t ht
      rcases List.mem_cons.1 h with rfl | h
      · have := splitC_le c r y (by rw [ht]; simp)
        simp; exact this
      have := splitC_le c r x (by rw [ht]; exact List.mem_cons_of_mem _ h)
      rw [List.length_cons]; omega
    rename_i ht
    exact absurd ht (splitC_ne c r)
theorem splitC_few (c : UInt8) (l : List UInt8) : (splitC c l).length ≤ l.length + 1 := by
  rw [splitC_length]
  have := List.count_le_length (a := c) (l := l)
  omega
def small (l : List ByteArray) : Prop := ∀ x ∈ l, x.size ≤ 70000
theorem small_split (c : UInt8) (s : ByteArray) (h : s.size ≤ 70000) : ∃ l, strings_Split.f s (ofL [c]) = some l ∧ small l ∧ l.length ≤ 70001 ∧ 1 ≤ l.length := by
  refine ⟨_, split_eq' s c (by omega), ?_, ?_, ?_⟩
  · intro x hx
    obtain ⟨y, hy, rfl⟩ := List.mem_map.1 hx
    have := splitC_le c _ y hy
    rw [size_toList] at this
    rw [ofL_size]; omega
  · have := splitC_few c s.data.toList
    rw [size_toList] at this
    rw [List.length_map]; omega
  rw [List.length_map, splitC_length]; omega
theorem small_at {l : List ByteArray} (h : small l) (i : Int) : (rdOf ByteArray.empty l i).size ≤ 70000 := by
  unfold rdOf
  rw [List.getD_eq_getElem?_getD]
  cases hi : l[i.toNat]? with
  | none => simp
  | some x => exact h x (List.mem_of_getElem? hi)
theorem read_any (s : ByteArray) (h : s.size ≤ 70000) : ∃ v, Ev (fun k => term_Read.f k s) v := by
  unfold term_Read.f
  have hp := prefix_ev 70000 s h (by omega)
  by_cases hv : (preV s.size (tpre s.data.toList)).2.2.2.2 = (s.size : Int)
  · exact ⟨_, Ev.bind hp (Ev.congr (fun k => if_pos hv) (Ev.now _))⟩
  exact ⟨_, Ev.bind hp (Ev.congr (fun k => if_neg hv) (Ev.now _))⟩
abbrev TV := List ByteArray × List (List S43) × Bool
theorem cells_any (vars : List ByteArray) (Y : List ByteArray) (i : Nat) (hi : i < 9223372036854775807) (accR : List (List S43)) (hR : accR.length < 5864062014805) (P : List ByteArray) (hP : small P) (hPl : P.length ≤ 70001) (Qv : TV → Prop) (hq : Qv (vars, accR, false))
    (hn : ∀ row : List S43, ∃ v, Ev (fun k => result_rows.l1 k Y (Y.length : Int) ((i + 1 : Nat) : Int) vars (accR ++ [row])) v ∧ Qv v) :
    ∀ (r : List ByteArray) (j : Nat) (acc : List S43), P.drop j = r → acc.length ≤ j →
    ∃ v, Ev (fun k => result_rows.l2 k acc Y (Y.length : Int) (i : Int) P (P.length : Int) (j : Int) vars accR) v ∧ Qv v := by
  intro r
  induction r with
  | nil =>
    intro j acc hd ha
    have := len_of_drop hd
    obtain ⟨v, hv, hqv⟩ := hn acc
    refine ⟨v, ?_, hqv⟩
    refine Ev.step (fun k => by rw [result_rows.l2]) ?_
    simp only [if_neg (show ¬ ((j : Int) < (P.length : Int)) by omega), if_pos hR, wrap_succ hi]
    exact hv
  | cons c r ih =>
    intro j acc hd ha
    obtain ⟨hg, hj, hr, _⟩ := get_of_drop hd ByteArray.empty
    have e : rdOf ByteArray.empty P (j : Int) = c := hg
    have hc : c.size ≤ 70000 := by rw [← e]; exact small_at hP _
    obtain ⟨x, hx⟩ := read_any c hc
    have key : ∃ v, Ev (fun k => if x.2.2.2.2 = 0 then (if acc.length < 2513169434916 then result_rows.l2 k (acc ++ [(⟨x.1, x.2.1, x.2.2.1, x.2.2.2.1⟩ : S43)]) Y (Y.length : Int) (i : Int) P (P.length : Int) ((j + 1 : Nat) : Int) vars accR else none) else some (vars, accR, false)) v ∧ Qv v := by
      by_cases h0 : x.2.2.2.2 = 0
      · simp only [if_pos h0, if_pos (show acc.length < 2513169434916 by omega)]
        exact ih (j + 1) _ hr (by simp; omega)
      exact ⟨_, Ev.congr (fun k => if_neg h0) (Ev.now _), hq⟩
    obtain ⟨v, hv, hqv⟩ := key
    refine ⟨v, ?_, hqv⟩
    refine Ev.step (fun k => by rw [result_rows.l2]) ?_
    simp only [if_pos (show (j : Int) < (P.length : Int) by omega), if_pos (show (0 : Int) ≤ (j : Int) by omega), e, wrap_succ (show j < 9223372036854775807 by omega)]
    exact Ev.bind hx hv
theorem split_any (s : ByteArray) (h : s.size ≤ 70000) (n : Int) : ∃ l, result_split.f s n = some l ∧ small l ∧ l.length ≤ 70001 := by
  obtain ⟨l, hl, h1, h2, _⟩ := small_split 9 s h
  rw [show ofL [9] = (⟨#[9]⟩ : ByteArray) from rfl] at hl
  unfold result_split.f
  rw [hl]
  by_cases h0 : n = 0
  · rw [if_pos h0]
    by_cases he : s.toList = []
    · rw [if_pos he]; exact ⟨[], rfl, (fun x hx => absurd hx (by simp)), by simp⟩
    rw [if_neg he]; exact ⟨l, rfl, h1, h2⟩
  rw [if_neg h0]; exact ⟨l, rfl, h1, h2⟩
theorem lines_any (vars : List ByteArray) (Y : List ByteArray) (hY : small Y) (hYl : Y.length ≤ 70001) : ∀ (r : List ByteArray) (i : Nat) (acc : List (List S43)), Y.drop i = r → acc.length ≤ i → i ≤ Y.length →
    ∃ v, Ev (fun k => result_rows.l1 k Y (Y.length : Int) (i : Int) vars acc) v ∧ v.2.1.length ≤ 70001 := by
  intro r
  induction r with
  | nil =>
    intro i acc hd ha hi
    have := len_of_drop hd
    refine ⟨(vars, acc, true), ?_, by show acc.length ≤ 70001; omega⟩
    refine Ev.step (fun k => by rw [result_rows.l1]) ?_
    simp only [if_neg (show ¬ ((i : Int) < (Y.length : Int)) by omega)]
    exact Ev.now _
  | cons c r ih =>
    intro i acc hd ha hil
    obtain ⟨hg, hi, hr, _⟩ := get_of_drop hd ByteArray.empty
    have e : rdOf ByteArray.empty Y (i : Int) = c := hg
    have hc : c.size ≤ 70000 := by rw [← e]; exact small_at hY _
    obtain ⟨P, hP, hPs, hPl⟩ := split_any c hc (vars.length : Int)
    obtain ⟨v, hv, hq⟩ := cells_any vars Y i (by omega) acc (by omega) P hPs hPl (fun v => v.2.1.length ≤ 70001) (by show acc.length ≤ 70001; omega)
      (fun row => ih (i + 1) (acc ++ [row]) hr (by simp; omega) (by omega)) P 0 [] rfl (by simp)
    refine ⟨v, ?_, hq⟩
    refine Ev.step (fun k => by rw [result_rows.l1]) ?_
    simp only [if_pos (show (i : Int) < (Y.length : Int) by omega), if_pos (show (0 : Int) ≤ (i : Int) by omega), e, hP, Option.bind_some]
    exact hv
theorem names_any (X : List ByteArray) (P : List ByteArray) (hPl : P.length ≤ 70001) (hn : ∀ vars : List ByteArray, ∃ v, Ev (fun k => result_rows.j1 k X vars) v ∧ v.2.1.length ≤ 70001) : ∀ (r : List ByteArray) (i : Nat) (acc : List ByteArray), P.drop i = r → acc.length ≤ i →
    ∃ v, Ev (fun k => result_rows.l0 k X P (P.length : Int) (i : Int) acc) v ∧ v.2.1.length ≤ 70001 := by
  intro r
  induction r with
  | nil =>
    intro i acc hd ha
    have := len_of_drop hd
    obtain ⟨v, hv, hq⟩ := hn acc
    refine ⟨v, ?_, hq⟩
    refine Ev.step (fun k => by rw [result_rows.l0]) ?_
    simp only [if_neg (show ¬ ((i : Int) < (P.length : Int)) by omega)]
    exact hv
  | cons c r ih =>
    intro i acc hd ha
    obtain ⟨hg, hi, hr, _⟩ := get_of_drop hd ByteArray.empty
    have e : rdOf ByteArray.empty P (i : Int) = c := hg
    by_cases hp : Lib.hasPrefix c.data.toList [63] = true
    · have hc1 : 1 ≤ c.size := by
        rw [← size_toList]
        cases hl : c.data.toList with
        | nil => rw [hl] at hp; exact absurd hp (by decide)
        | cons a l => simp
      obtain ⟨v, hv, hq⟩ := ih (i + 1) (acc ++ [c.extract 1 c.size]) hr (by simp; omega)
      refine ⟨v, ?_, hq⟩
      refine Ev.step (fun k => by rw [result_rows.l0]) ?_
      have hpf : strings_HasPrefix.f c (⟨#[63]⟩ : ByteArray) = some true := by unfold strings_HasPrefix.f; exact congrArg some hp
      simp only [if_pos (show (i : Int) < (P.length : Int) by omega), if_pos (show (0 : Int) ≤ (i : Int) by omega), e, hpf, Option.bind_some, if_true, if_pos (show (1 : Int) ≤ (c.size : Int) by omega), if_pos (show acc.length < 8796093022208 by omega), wrap_succ (show i < 9223372036854775807 by omega)]
      exact hv
    refine ⟨(acc, [], false), ?_, by simp⟩
    refine Ev.step (fun k => by rw [result_rows.l0]) ?_
    have hpf : strings_HasPrefix.f c (⟨#[63]⟩ : ByteArray) = some false := by unfold strings_HasPrefix.f; exact congrArg some (by simpa using hp)
    simp only [if_pos (show (i : Int) < (P.length : Int) by omega), if_pos (show (0 : Int) ≤ (i : Int) by omega), e, hpf, Option.bind_some, Bool.false_eq_true, if_false]
    exact Ev.now _
theorem rows_any (X : List ByteArray) (hX : small X) (hXl : X.length ≤ 70001) : ∃ v, Ev (fun k => result_rows.f k X) v ∧ v.2.1.length ≤ 70001 := by
  unfold result_rows.f
  by_cases h0 : X.length = 0
  · exact ⟨([], [], false), Ev.congr (fun k => if_pos (by omega)) (Ev.now _), by simp⟩
  have hj : ∀ vars : List ByteArray, ∃ v, Ev (fun k => result_rows.j1 k X vars) v ∧ v.2.1.length ≤ 70001 := by
    intro vars
    obtain ⟨v, hv, hq⟩ := lines_any vars (X.drop 1) (fun x hx => hX x (List.mem_of_mem_drop hx)) (by rw [List.length_drop]; omega) (X.drop 1) 0 [] rfl (by simp) (by omega)
    refine ⟨v, ?_, hq⟩
    refine Ev.step (fun k => by rw [result_rows.j1]) ?_
    simp only [if_pos (show (1 : Int) ≤ (X.length : Int) by omega), Option.bind_some]
    exact hv
  by_cases he : (rdOf ByteArray.empty X 0).toList = []
  · obtain ⟨v, hv, hq⟩ := hj []
    exact ⟨v, Ev.congr (fun k => (if_neg (by omega)).trans ((if_pos (by omega)).trans (if_pos he))) hv, hq⟩
  obtain ⟨P, hP, hPs, hPl, _⟩ := small_split 9 (rdOf ByteArray.empty X 0) (small_at hX 0)
  rw [show ofL [9] = (⟨#[9]⟩ : ByteArray) from rfl] at hP
  obtain ⟨v, hv, hq⟩ := names_any X P hPl hj P 0 [] rfl (by simp)
  refine ⟨v, Ev.congr (fun k => (if_neg (by omega)).trans ((if_pos (by omega)).trans (if_neg he))) ?_, hq⟩
  rw [hP]
  exact hv
theorem mid_any (L : List ByteArray) (hL : small L) (hLl : L.length ≤ 70001) (a : Bool) : ∃ m, Ev (fun k => getMid k L a) m ∧ m.2.2.1.length ≤ 70001 := by
  unfold getMid
  by_cases h1 : (rdOf ByteArray.empty L 1).toList = [114, 111, 119, 115]
  · obtain ⟨v, hv, hq⟩ := rows_any (L.drop 2) (fun x hx => hL x (List.mem_of_mem_drop hx)) (by rw [List.length_drop]; omega)
    exact ⟨_, Ev.congr (fun k => if_pos h1) (Ev.bind hv (Ev.now _)), hq⟩
  by_cases h2 : Lib.hasPrefix (rdOf ByteArray.empty L 1).data.toList [101, 114, 114, 111, 114, 32] = true
  · have hz := small_at hL 1
    have h6 : 6 ≤ (rdOf ByteArray.empty L 1).size := by
      rw [← size_toList]
      unfold Lib.hasPrefix at h2
      have := (List.isPrefixOf_iff_prefix.1 h2).length_le
      simpa using this
    have he : ((rdOf ByteArray.empty L 1).extract 6 (rdOf ByteArray.empty L 1).size).size ≤ 281474976710656 := by
      rw [ext_end, ofL_size, List.length_drop, size_toList]; omega
    exact ⟨_, Ev.congr (fun k => (if_neg h1).trans ((if_pos h2).trans (if_pos ⟨h6, he⟩))) (Ev.now _), by simp⟩
  exact ⟨_, Ev.congr (fun k => (if_neg h1).trans (if_neg h2)) (Ev.now _), by simp⟩
abbrev GV := Int × Int × List ByteArray × List (List S43) × Bool × Int × Int
theorem get_any (b : ByteArray) : ∃ v : GV, Ev (fun k => result_Get.f k b) v ∧ (v.2.2.2.2.2.2 = 0 → ∃ y : ByteArray × Int, Ev (fun k => result_Put.f k v.1 v.2.1 v.2.2.1 v.2.2.2.1 v.2.2.2.2.1 v.2.2.2.2.2.1) y ∧ y.2 = 0 ∧ y.1.toList = b.toList) ∧ ((v.2.2.2.2.2.2 = 0 ∧ chk v.1 v.2.1 v.2.2.1 v.2.2.2.1 v.2.2.2.2.1 v.2.2.2.2.2.1 = 0 ∧ bytesL v.1.toNat v.2.1 v.2.2.1 v.2.2.2.1 v.2.2.2.2.1 v.2.2.2.2.2.1.toNat = b.data.toList) ∨ v = (0, 0, [], [], false, 0, if b.size > 65536 then 3 else 2)) := by
  unfold result_Get.f
  by_cases hz : b.size > 65536
  · exact ⟨(0, 0, [], [], false, 0, 3), Ev.congr (fun k => if_pos (by omega)) (Ev.now _), fun h => absurd h (by decide), .inr (by rw [if_pos hz])⟩
  obtain ⟨l, hl, hs, hll, hl1⟩ := small_split 10 b (by omega)
  rw [show ofL [10] = (⟨#[10]⟩ : ByteArray) from rfl] at hl
  rw [hl]
  simp only [if_neg (show ¬ ((b.size : Int) > 65536) by omega), Option.bind_some, if_pos (show l.length < 4611686018427387904 by omega)]
  by_cases h3 : (l.length : Int) < 3
  · exact ⟨(0, 0, [], [], false, 0, 2), Ev.congr (fun k => if_pos h3) (Ev.now _), fun h => absurd h (by decide), .inr (by rw [if_neg hz])⟩
  by_cases he : (rdOf ByteArray.empty l ((l.length : Int) - 1)).toList = []
  case neg => exact ⟨(0, 0, [], [], false, 0, 2), Ev.congr (fun k => (if_neg h3).trans (if_neg he)) (Ev.now _), fun h => absurd h (by decide), .inr (by rw [if_neg hz])⟩
  have hLs : small (l.take (l.length - 1)) := fun x hx => hs x (List.mem_of_mem_take hx)
  have hLl : (l.take (l.length - 1)).length ≤ 70001 := by rw [List.length_take]; omega
  obtain ⟨m, hm, hq⟩ := mid_any (l.take (l.length - 1)) hLs hLl (atoiOk (rdOf ByteArray.empty (l.take (l.length - 1)) 0))
  have hp := put_ev (atoiV (rdOf ByteArray.empty (l.take (l.length - 1)) 0)) m.1 m.2.1 m.2.2.1 (by omega) m.2.2.2.1 m.2.2.2.2.1
  generalize hyy : (if chk (atoiV (rdOf ByteArray.empty (l.take (l.length - 1)) 0)) m.1 m.2.1 m.2.2.1 m.2.2.2.1 m.2.2.2.2.1 = 0 then finL (bytesL (atoiV (rdOf ByteArray.empty (l.take (l.length - 1)) 0)).toNat m.1 m.2.1 m.2.2.1 m.2.2.2.1 m.2.2.2.2.1.toNat) else ((⟨#[]⟩ : ByteArray), chk (atoiV (rdOf ByteArray.empty (l.take (l.length - 1)) 0)) m.1 m.2.1 m.2.2.1 m.2.2.2.1 m.2.2.2.2.1)) = y at hp
  have hsz : (rdOf ByteArray.empty (l.take (l.length - 1)) 0).size ≤ 281474976710656 := by have := small_at hLs 0; omega
  by_cases hg : m.2.2.2.2.2 = true ∧ y.2 = 0 ∧ y.1.toList = b.toList
  · refine ⟨(atoiV (rdOf ByteArray.empty (l.take (l.length - 1)) 0), m.1, m.2.1, m.2.2.1, m.2.2.2.1, m.2.2.2.2.1, 0), Ev.congr (fun k => (if_neg h3).trans (if_pos he)) ?_, fun _ => ⟨y, hp, hg.2⟩, .inl ⟨rfl, ?_⟩⟩
    · unfold getRest
      simp only [if_pos hsz]
      exact Ev.bind hm (Ev.bind hp (Ev.congr (fun k => if_pos hg) (Ev.now _)))
    simp only
    obtain ⟨_, g2, g3⟩ := hg
    by_cases hc : chk (atoiV (rdOf ByteArray.empty (l.take (l.length - 1)) 0)) m.1 m.2.1 m.2.2.1 m.2.2.2.1 m.2.2.2.2.1 = 0
    · rw [if_pos hc] at hyy
      unfold finL at hyy
      by_cases hl : (bytesL (atoiV (rdOf ByteArray.empty (l.take (l.length - 1)) 0)).toNat m.1 m.2.1 m.2.2.1 m.2.2.2.1 m.2.2.2.2.1.toNat).length > 65536
      · rw [if_pos hl] at hyy
        rw [← hyy] at g2
        cases g2
      rw [if_neg hl] at hyy
      rw [← hyy, tl, tl, ofL_toList] at g3
      exact ⟨hc, g3⟩
    rw [if_neg hc] at hyy
    rw [← hyy] at g2
    exact absurd g2 hc
  refine ⟨(0, 0, [], [], false, 0, 2), Ev.congr (fun k => (if_neg h3).trans (if_pos he)) ?_, fun h => absurd h (by decide), .inr (by rw [if_neg hz])⟩
  unfold getRest
  simp only [if_pos hsz]
  exact Ev.bind hm (Ev.bind hp (Ev.congr (fun k => if_neg hg) (Ev.now _)))
end Go.Proofs.YtgabadlneeffkaaGreatDoor.G

/- What the reference's Same comes to. -/
namespace Go.Proofs.YtgabadlneeffkaaGreatDoor.G
open Go.RowKit Go.Lib Go.Proofs.YtgabadlneeffkaaGreatDoor Go.Proofs.YtgabadlneeffkaaGreatDoorW.PrintWords Go.Proofs.YtgabadlneeffkaaGreatDoorW.PrintLast
set_option linter.unusedVariables false
set_option linter.unusedSimpArgs false
theorem texts_loop (x y : List ByteArray) (hl : x.length = y.length) (hx : x.length ≤ 9223372036854775807) : ∀ (r s : List ByteArray) (i : Nat), x.drop i = r → y.drop i = s →
    Ev (fun k => legationref03_SameTexts.l0 k x y (i : Int)) (decide (B r = B s)) := by
  intro r
  induction r with
  | nil =>
    intro s i hd he
    have h1 := len_of_drop hd
    have : s = [] := by rw [← he]; exact List.drop_eq_nil_of_le (by omega)
    subst this
    refine Ev.step (fun k => by rw [legationref03_SameTexts.l0]) ?_
    simp only [if_neg (show ¬ ((i : Int) < (x.length : Int)) by omega)]
    exact Ev.now _
  | cons c r ih =>
    intro s i hd he
    obtain ⟨hg, hi, hr, _⟩ := get_of_drop hd ByteArray.empty
    cases s with
    | nil => have := len_of_drop he; omega
    | cons d s =>
      obtain ⟨hg2, _, hs, _⟩ := get_of_drop he ByteArray.empty
      refine Ev.step (fun k => by rw [legationref03_SameTexts.l0]) ?_
      have e1 : rdOf ByteArray.empty x (i : Int) = c := hg
      have e2 : rdOf ByteArray.empty y (i : Int) = d := hg2
      simp only [if_pos (show (i : Int) < (x.length : Int) by omega), if_pos (show (0 : Int) ≤ (i : Int) by omega), if_pos (show (i : Int) < (y.length : Int) by omega), e1, e2, wrap_succ (show i < 9223372036854775807 by omega), tl]
      rw [show B (c :: r) = c.data.toList :: B r from rfl, show B (d :: s) = d.data.toList :: B s from rfl]
      by_cases h : c.data.toList = d.data.toList
      · simp only [if_pos h]
        have := ih s (i + 1) hr hs
        rw [show decide (c.data.toList :: B r = d.data.toList :: B s) = decide (B r = B s) by simp [h]]
        exact this
      simp only [if_neg h]
      rw [show decide (c.data.toList :: B r = d.data.toList :: B s) = false by simp [h]]
      exact Ev.now _
theorem texts_ev (x y : List ByteArray) (hx : x.length ≤ 9223372036854775807) : Ev (fun k => legationref03_SameTexts.f k x y) (decide (B x = B y)) := by
  unfold legationref03_SameTexts.f
  by_cases hl : x.length = y.length
  · simp only [if_pos (show (x.length : Int) = (y.length : Int) by omega)]
    exact texts_loop x y hl hx x y 0 rfl rfl
  simp only [if_neg (show ¬ ((x.length : Int) = (y.length : Int)) by omega)]
  rw [decide_eq_false (fun h => hl (by have := congrArg List.length h; rwa [B_len, B_len] at this))]
  exact Ev.now _
theorem ne_tm (c d : S43) : (!(c.f0 == d.f0) || (!(c.f1.data.toList == d.f1.data.toList) || (!(c.f2.data.toList == d.f2.data.toList) || !(c.f3.data.toList == d.f3.data.toList)))) = !decide (T c = T d) := by
  have e : (T c = T d) = (c.f0 = d.f0 ∧ c.f1.data.toList = d.f1.data.toList ∧ c.f2.data.toList = d.f2.data.toList ∧ c.f3.data.toList = d.f3.data.toList) := by simp only [T, TT, Tm.mk.injEq]
  rw [Bool.eq_iff_iff]
  simp only [Bool.or_eq_true, Bool.not_eq_true', beq_eq_false_iff_ne, decide_eq_false_iff_not, e]
  constructor
  · rintro (h | h | h | h) ⟨g0, g1, g2, g3⟩
    · exact h g0
    · exact h g1
    · exact h g2
    exact h g3
  intro h
  by_cases g0 : c.f0 = d.f0
  · by_cases g1 : c.f1.data.toList = d.f1.data.toList
    · by_cases g2 : c.f2.data.toList = d.f2.data.toList
      · exact .inr (.inr (.inr (fun g3 => h ⟨g0, g1, g2, g3⟩)))
      exact .inr (.inr (.inl g2))
    exact .inr (.inl g1)
  exact .inl g0
theorem row_loop (x y : List S43) (hl : x.length = y.length) (hx : x.length ≤ 9223372036854775807) : ∀ (r s : List S43) (i : Nat), x.drop i = r → y.drop i = s →
    Ev (fun k => legationref04_SameRow.l0 k x y (i : Int)) (decide (r.map T = s.map T)) := by
  intro r
  induction r with
  | nil =>
    intro s i hd he
    have h1 := len_of_drop hd
    have : s = [] := by rw [← he]; exact List.drop_eq_nil_of_le (by omega)
    subst this
    refine Ev.step (fun k => by rw [legationref04_SameRow.l0]) ?_
    simp only [if_neg (show ¬ ((i : Int) < (x.length : Int)) by omega)]
    exact Ev.now _
  | cons c r ih =>
    intro s i hd he
    obtain ⟨hg, hi, hr, _⟩ := get_of_drop hd z43
    cases s with
    | nil => have := len_of_drop he; omega
    | cons d s =>
      obtain ⟨hg2, _, hs, _⟩ := get_of_drop he z43
      refine Ev.step (fun k => by rw [legationref04_SameRow.l0]) ?_
      have e1 : rd_T43 x (i : Int) = c := hg
      have e2 : rd_T43 y (i : Int) = d := hg2
      simp only [if_pos (show (i : Int) < (x.length : Int) by omega), if_pos (show (0 : Int) ≤ (i : Int) by omega), if_pos (show (i : Int) < (y.length : Int) by omega), e1, e2, wrap_succ (show i < 9223372036854775807 by omega), tl]
      have ih' := ih s (i + 1) hr hs
      rw [List.map_cons, List.map_cons]
      rw [ne_tm]
      by_cases h : T c = T d
      · rw [show decide (T c :: r.map T = T d :: s.map T) = decide (r.map T = s.map T) by simp [h]]
        simp only [decide_eq_true h, Bool.not_true, Bool.false_eq_true, if_false]
        exact ih'
      rw [show decide (T c :: r.map T = T d :: s.map T) = false by simp [h]]
      simp only [decide_eq_false h, Bool.not_false, if_true]
      exact Ev.now _
theorem row_ev (x y : List S43) (hx : x.length ≤ 9223372036854775807) : Ev (fun k => legationref04_SameRow.f k x y) (decide (x.map T = y.map T)) := by
  unfold legationref04_SameRow.f
  by_cases hl : x.length = y.length
  · simp only [if_pos (show (x.length : Int) = (y.length : Int) by omega)]
    exact row_loop x y hl hx x y 0 rfl rfl
  simp only [if_neg (show ¬ ((x.length : Int) = (y.length : Int)) by omega)]
  rw [decide_eq_false (fun h => hl (by have := congrArg List.length h; rwa [List.length_map, List.length_map] at this))]
  exact Ev.now _
def RT (l : List (List S43)) : List (List Tm) := l.map (·.map T)
theorem table_loop (a b : List ByteArray) (x y : List (List S43)) (hl : x.length = y.length) (hx : x.length ≤ 9223372036854775807) (hin : ∀ z ∈ x, z.length ≤ 9223372036854775807) : ∀ (r s : List (List S43)) (i : Nat), x.drop i = r → y.drop i = s →
    Ev (fun k => legationref04_SameTable.l0 k (i : Int) a x b y) (decide (RT r = RT s)) := by
  intro r
  induction r with
  | nil =>
    intro s i hd he
    have h1 := len_of_drop hd
    have : s = [] := by rw [← he]; exact List.drop_eq_nil_of_le (by omega)
    subst this
    refine Ev.step (fun k => by rw [legationref04_SameTable.l0]) ?_
    simp only [if_neg (show ¬ ((i : Int) < (x.length : Int)) by omega)]
    exact Ev.now _
  | cons c r ih =>
    intro s i hd he
    obtain ⟨hg, hi, hr, _⟩ := get_of_drop hd ([] : List S43)
    cases s with
    | nil => have := len_of_drop he; omega
    | cons d s =>
      obtain ⟨hg2, _, hs, _⟩ := get_of_drop he ([] : List S43)
      refine Ev.step (fun k => by rw [legationref04_SameTable.l0]) ?_
      have e1 : rd_L3 x (i : Int) = c := hg
      have e2 : rd_L3 y (i : Int) = d := hg2
      have hm : c ∈ x := by
        have : c ∈ x.drop i := by rw [hd]; simp
        exact List.mem_of_mem_drop this
      simp only [if_pos (show (i : Int) < (x.length : Int) by omega), if_pos (show (0 : Int) ≤ (i : Int) by omega), if_pos (show (i : Int) < (y.length : Int) by omega), e1, e2, wrap_succ (show i < 9223372036854775807 by omega)]
      have ih' := ih s (i + 1) hr hs
      refine Ev.bind (row_ev c d (hin c hm)) ?_
      rw [show RT (c :: r) = c.map T :: RT r from rfl, show RT (d :: s) = d.map T :: RT s from rfl]
      by_cases h : c.map T = d.map T
      · rw [show decide (c.map T :: RT r = d.map T :: RT s) = decide (RT r = RT s) by simp [h]]
        simp only [decide_eq_true h, if_true]
        exact ih'
      rw [show decide (c.map T :: RT r = d.map T :: RT s) = false by simp [h]]
      simp only [decide_eq_false h, Bool.false_eq_true, if_false]
      exact Ev.now _
theorem table_ev (a b : List ByteArray) (ha : a.length ≤ 9223372036854775807) (x y : List (List S43)) (hx : x.length ≤ 9223372036854775807) (hin : ∀ z ∈ x, z.length ≤ 9223372036854775807) :
    Ev (fun k => legationref04_SameTable.f k a x b y) (decide (B a = B b ∧ RT x = RT y)) := by
  unfold legationref04_SameTable.f
  refine Ev.bind (texts_ev a b ha) ?_
  have j0 : ∀ z : Bool, z = !decide (B a = B b ∧ x.length = y.length) → Ev (fun k => legationref04_SameTable.j0 k z a x b y) (decide (B a = B b ∧ RT x = RT y)) := by
    intro z hz
    refine Ev.step (fun k => by rw [legationref04_SameTable.j0]) ?_
    by_cases hl : B a = B b ∧ x.length = y.length
    · rw [decide_eq_true hl] at hz
      subst hz
      simp only [Bool.not_true, Bool.false_eq_true, if_false]
      rw [show decide (B a = B b ∧ RT x = RT y) = decide (RT x = RT y) by simp [hl.1]]
      exact table_loop a b x y hl.2 hx hin x y 0 rfl rfl
    rw [decide_eq_false hl] at hz
    subst hz
    simp only [Bool.not_false, if_true]
    rw [decide_eq_false (fun h => hl ⟨h.1, by have := congrArg List.length h.2; simpa [RT] using this⟩)]
    exact Ev.now _
  by_cases h : B a = B b
  · simp only [decide_eq_true h, if_true]
    refine j0 _ ?_
    rw [Bool.eq_iff_iff]
    simp only [h, true_and, bne_iff_ne, ne_eq, Bool.not_eq_true', decide_eq_false_iff_not]
    omega
  simp only [decide_eq_false h, Bool.false_eq_true, if_false]
  exact j0 _ (by rw [decide_eq_false (fun h' => h h'.1)]; rfl)
/-- two replies read the same -/
def sameR (a0 a1 : Int) (a2 : List ByteArray) (a3 : List (List S43)) (a4 : Bool) (a5 : Int) (b0 b1 : Int) (b2 : List ByteArray) (b3 : List (List S43)) (b4 : Bool) (b5 : Int) : Prop :=
  a0 = b0 ∧ a1 = b1 ∧ a4 = b4 ∧ a5 = b5 ∧ B a2 = B b2 ∧ RT a3 = RT b3
instance (a0 a1 : Int) (a2 : List ByteArray) (a3 : List (List S43)) (a4 : Bool) (a5 : Int) (b0 b1 : Int) (b2 : List ByteArray) (b3 : List (List S43)) (b4 : Bool) (b5 : Int) : Decidable (sameR a0 a1 a2 a3 a4 a5 b0 b1 b2 b3 b4 b5) := by unfold sameR; infer_instance
theorem same_ev (a0 a1 : Int) (a2 : List ByteArray) (h2 : a2.length ≤ 9223372036854775807) (a3 : List (List S43)) (h3 : a3.length ≤ 9223372036854775807) (hin : ∀ z ∈ a3, z.length ≤ 9223372036854775807) (a4 : Bool) (a5 : Int)
    (b0 b1 : Int) (b2 : List ByteArray) (b3 : List (List S43)) (b4 : Bool) (b5 : Int) :
    Ev (fun k => legationref17_Same.f k a0 a1 a2 a3 a4 a5 b0 b1 b2 b3 b4 b5) (decide (sameR a0 a1 a2 a3 a4 a5 b0 b1 b2 b3 b4 b5)) := by
  unfold legationref17_Same.f
  by_cases q0 : a0 = b0
  · simp only [if_pos q0]
    by_cases q1 : a1 = b1
    · simp only [if_pos q1]
      by_cases q4 : a4 = b4
      · simp only [beq_iff_eq.mpr q4, if_true]
        by_cases q5 : a5 = b5
        · simp only [if_pos q5]
          refine Ev.bind (table_ev a2 b2 h2 a3 b3 h3 hin) ?_
          rw [show decide (sameR a0 a1 a2 a3 a4 a5 b0 b1 b2 b3 b4 b5) = decide (B a2 = B b2 ∧ RT a3 = RT b3) from decide_eq_decide.2 (by unfold sameR; simp [q0, q1, q4, q5])]
          exact Ev.now _
        simp only [if_neg q5]
        rw [decide_eq_false (show ¬ sameR a0 a1 a2 a3 a4 a5 b0 b1 b2 b3 b4 b5 from fun h => q5 h.2.2.2.1)]
        exact Ev.now _
      simp only [beq_eq_false_iff_ne.mpr q4, Bool.false_eq_true, if_false]
      rw [decide_eq_false (show ¬ sameR a0 a1 a2 a3 a4 a5 b0 b1 b2 b3 b4 b5 from fun h => q4 h.2.2.1)]
      exact Ev.now _
    simp only [if_neg q1]
    rw [decide_eq_false (show ¬ sameR a0 a1 a2 a3 a4 a5 b0 b1 b2 b3 b4 b5 from fun h => q1 h.2.1)]
    exact Ev.now _
  simp only [if_neg q0]
  rw [decide_eq_false (show ¬ sameR a0 a1 a2 a3 a4 a5 b0 b1 b2 b3 b4 b5 from fun h => q0 h.1)]
  exact Ev.now _
end Go.Proofs.YtgabadlneeffkaaGreatDoor.G

/- Reading a reply's lines, plain: a literal by its closing quote, a name byte by byte, lines, cells; and that what is read was written. -/
namespace Go.Proofs.YtgabadlneeffkaaGreatDoor.G
open Go.RowKit Go.Lib Go.Proofs.YtgabadlneeffkaaGreatDoor Go.Proofs.YtgabadlneeffkaaGreatDoorW.PrintWords Go.Proofs.YtgabadlneeffkaaGreatDoorW.PrintLast
set_option linter.unusedVariables false
set_option linter.unusedSimpArgs false

/-! ### a literal, by its closing quote -/
def clS : List UInt8 → Option (List UInt8 × List UInt8)
  | [] => none
  | b :: r =>
    if b.toNat = 92 then
      match r with
      | [] => none
      | c :: r' => (clS r').map fun x => (b :: c :: x.1, x.2)
    else if b.toNat = 34 then some ([], r)
    else (clS r).map fun x => (b :: x.1, x.2)
def unR : List UInt8 → Option (List UInt8)
  | [] => some []
  | b :: r =>
    if b.toNat = 92 then
      match r with
      | [] => none
      | c :: r' => match unescB c with
        | some d => (unR r').map (d :: ·)
        | none => none
    else if b.toNat = 34 ∨ b.toNat = 10 ∨ b.toNat = 9 then none
    else (unR r).map (b :: ·)
theorem clS_cons (b : UInt8) (r : List UInt8) : clS (b :: r) =
    if b.toNat = 92 then
      match r with
      | [] => none
      | c :: r' => (clS r').map fun x => (b :: c :: x.1, x.2)
    else if b.toNat = 34 then some ([], r)
    else (clS r).map fun x => (b :: x.1, x.2) := by rw [clS.eq_def]
theorem unR_cons (b : UInt8) (r : List UInt8) : unR (b :: r) =
    if b.toNat = 92 then
      match r with
      | [] => none
      | c :: r' => match unescB c with
        | some d => (unR r').map (d :: ·)
        | none => none
    else if b.toNat = 34 ∨ b.toNat = 10 ∨ b.toNat = 9 then none
    else (unR r).map (b :: ·) := by rw [unR.eq_def]
theorem litR_cl : ∀ (n : Nat) (l : List UInt8), l.length ≤ n → litR l = (clS l).bind fun x => (unR x.1).map fun y => (y, x.2)
  | _, [], _ => rfl
  | 0, b :: l, h => by simp at h
  | n + 1, b :: l, h => by
    rw [litR_cons, clS_cons]
    by_cases h1 : b.toNat = 34
    · rw [if_pos h1, if_neg (by omega), if_pos h1]; rfl
    rw [if_neg h1]
    by_cases h2 : b.toNat = 92
    · rw [if_pos h2, if_pos h2]
      cases l with
      | nil => rfl
      | cons c r' =>
        simp only
        have ih := litR_cl n r' (by simp at h; omega)
        cases hc : clS r' with
        | none =>
          rw [hc] at ih
          cases unescB c with
          | none => rfl
          | some d => simp only [ih]; rfl
        | some x =>
          rw [hc] at ih
          simp only [Option.map_some, Option.bind_some]
          rw [unR_cons, if_pos h2]
          simp only
          cases unescB c with
          | none => rfl
          | some d =>
            simp only [ih, Option.bind_some]
            cases unR x.1 <;> rfl
    rw [if_neg h2, if_neg h2, if_neg h1]
    have ih := litR_cl n l (by simpa using h)
    cases hc : clS l with
    | none =>
      rw [hc] at ih
      by_cases h3 : b.toNat = 10 ∨ b.toNat = 9
      · rw [if_pos h3]; rfl
      rw [if_neg h3, ih]; rfl
    | some x =>
      rw [hc] at ih
      simp only [Option.map_some, Option.bind_some]
      rw [unR_cons, if_neg h2]
      by_cases h3 : b.toNat = 10 ∨ b.toNat = 9
      · rw [if_pos h3, if_pos (.inr h3)]; rfl
      rw [if_neg h3, if_neg (by omega), ih]
      simp only [Option.bind_some]
      cases unR x.1 <;> rfl
theorem clS_len : ∀ (n : Nat) (l : List UInt8), l.length ≤ n → ∀ x, clS l = some x → l = x.1 ++ 34 :: x.2
  | _, [], _, x, h => by cases h
  | 0, b :: l, h, _, _ => by simp at h
  | n + 1, b :: l, h, x, e => by
    rw [clS_cons] at e
    by_cases h2 : b.toNat = 92
    · rw [if_pos h2] at e
      cases l with
      | nil => cases e
      | cons c r' =>
        simp only at e
        obtain ⟨y, hy, rfl⟩ := Option.map_eq_some_iff.1 e
        rw [clS_len n r' (by simp at h; omega) y hy]
        rfl
    rw [if_neg h2] at e
    by_cases h1 : b.toNat = 34
    · rw [if_pos h1] at e
      obtain rfl := Option.some.inj e
      rw [byte_eq h1 (by decide)]
      rfl
    rw [if_neg h1] at e
    obtain ⟨y, hy, rfl⟩ := Option.map_eq_some_iff.1 e
    rw [clS_len n l (by simpa using h) y hy]
    rfl

/-! ### a name, byte by byte -/
theorem nameN_take (l : List UInt8) (m : Nat) : nameN (l.take m) = min m (nameN l) := by
  cases l with
  | nil => simp [nameN]
  | cons c r =>
    cases m with
    | zero => simp [nameN]
    | succ m =>
      rw [List.take_succ_cons]
      unfold nameN
      by_cases hc : isLet c = true
      · simp only [if_pos hc]
        rw [List.take_take, Nat.min_comm, ← List.take_take, ← List.take_takeWhile, List.length_take]
        omega
      simp only [if_neg hc]; omega
theorem nameN_32 (l : List UInt8) : nameN l ≤ 32 := by
  cases l with
  | nil => simp [nameN]
  | cons c r =>
    unfold nameN
    have h1 := (List.takeWhile_prefix nameB (l := r.take 31)).length_le
    rw [List.length_take] at h1
    by_cases hc : isLet c = true
    · simp only [if_pos hc]; omega
    simp only [if_neg hc]; omega
theorem nameN_step (l : List UInt8) (n : Nat) (hl : n < l.length) : okName (l.take (n + 1)) = decide (n + 1 ≤ nameN l) := by
  rw [okName_iff, nameN_take, List.length_take, Nat.min_eq_left (show n + 1 ≤ l.length by omega)]
  have : (l.take (n + 1)).isEmpty = false := by
    cases l with
    | nil => simp at hl
    | cons c r => rfl
  rw [this]
  simp only [Bool.not_false, Bool.true_and]
  rw [Bool.eq_iff_iff, beq_iff_eq, decide_eq_true_eq]
  omega

/-! ### lines and cells -/
def linesR (p : List UInt8) : List UInt8 → List (List UInt8) × Bool
  | [] => ([], p.isEmpty)
  | c :: r => if c.toNat = 10 then (p :: (linesR [] r).1, (linesR [] r).2) else linesR (p ++ [c]) r
theorem linesR_some : ∀ (r p : List UInt8), (linesR p r).2 = true → p ++ r = unl (linesR p r).1
  | [], p, h => by
    rw [linesR] at h ⊢
    rw [isEmpty_nil h]
    rfl
  | c :: r, p, h => by
    rw [linesR] at h ⊢
    by_cases hc : c.toNat = 10
    · rw [if_pos hc] at h ⊢
      simp only at h ⊢
      rw [unl_cons, ← linesR_some r [] h, byte_eq hc (by decide)]
      rfl
    rw [if_neg hc] at h ⊢
    rw [← linesR_some r (p ++ [c]) h, List.append_assoc]
    rfl
theorem linesR_run : ∀ (a p r : List UInt8), (10 : UInt8) ∉ a → linesR p (a ++ r) = linesR (p ++ a) r
  | [], p, r, _ => by rw [List.nil_append, List.append_nil]
  | c :: a, p, r, h => by
    rw [List.cons_append, linesR, if_neg (fun e => h (by rw [byte_eq e (by decide)]; exact List.mem_cons_self)), linesR_run a _ r (fun e => h (List.mem_cons_of_mem _ e)), List.append_assoc]
    rfl
theorem linesR_unl : ∀ ls : List (List UInt8), (∀ x ∈ ls, (10 : UInt8) ∉ x) → linesR [] (unl ls) = (ls, true)
  | [], _ => rfl
  | a :: ls, h => by
    rw [unl_cons, linesR_run a [] _ (h a List.mem_cons_self), List.nil_append, linesR, if_pos (by decide), linesR_unl ls (fun x hx => h x (List.mem_cons_of_mem _ hx))]
def cellsR (p : List UInt8) : List UInt8 → List (List UInt8)
  | [] => [p]
  | c :: r => if c.toNat = 9 then p :: cellsR [] r else cellsR (p ++ [c]) r
theorem cellsR_ne : ∀ (r p : List UInt8), cellsR p r ≠ []
  | [], p => by simp [cellsR]
  | c :: r, p => by
    rw [cellsR]
    split
    · simp
    exact cellsR_ne r _
theorem cellsR_join : ∀ (r p : List UInt8), joinT (cellsR p r) = p ++ r
  | [], p => by simp [cellsR, joinT]
  | c :: r, p => by
    rw [cellsR]
    by_cases hc : c.toNat = 9
    · rw [if_pos hc]
      have ih := cellsR_join r []
      cases hs : cellsR [] r with
      | nil => exact absurd hs (cellsR_ne r [])
      | cons a t => rw [joinT_cons, ← hs, ih, byte_eq hc (by decide)]; rfl
    rw [if_neg hc, cellsR_join r (p ++ [c]), List.append_assoc]
    rfl
theorem cellsR_run : ∀ (a p r : List UInt8), (9 : UInt8) ∉ a → cellsR p (a ++ r) = cellsR (p ++ a) r
  | [], p, r, _ => by rw [List.nil_append, List.append_nil]
  | c :: a, p, r, h => by
    rw [List.cons_append, cellsR, if_neg (fun e => h (by rw [byte_eq e (by decide)]; exact List.mem_cons_self)), cellsR_run a _ r (fun e => h (List.mem_cons_of_mem _ e)), List.append_assoc]
    rfl
theorem cellsR_mk : ∀ ls : List (List UInt8), ls ≠ [] → (∀ x ∈ ls, (9 : UInt8) ∉ x) → cellsR [] (joinT ls) = ls
  | [], h, _ => absurd rfl h
  | [a], _, h => by
    have := cellsR_run a [] [] (h a List.mem_cons_self)
    rw [List.append_nil, List.nil_append] at this
    rw [show joinT [a] = a from rfl, this]
    rfl
  | a :: b :: ls, _, h => by
    rw [joinT_cons, cellsR_run a [] _ (h a List.mem_cons_self), List.nil_append, cellsR, if_pos (by decide), cellsR_mk (b :: ls) (by simp) (fun x hx => h x (List.mem_cons_of_mem _ hx))]
theorem cellsR_le : ∀ (r p x : List UInt8), x ∈ cellsR p r → x.length ≤ p.length + r.length
  | [], p, x, h => by simp [cellsR] at h; simp [h]
  | c :: r, p, x, h => by
    rw [cellsR] at h
    by_cases hc : c.toNat = 9
    · rw [if_pos hc] at h
      rcases List.mem_cons.1 h with rfl | h
      · omega
      have := cellsR_le r [] x h
      simp at this ⊢; omega
    rw [if_neg hc] at h
    have := cellsR_le r (p ++ [c]) x h
    simp at this ⊢; omega
theorem cellsR_few : ∀ (r p : List UInt8), (cellsR p r).length ≤ r.length + 1
  | [], p => by simp [cellsR]
  | c :: r, p => by
    rw [cellsR]
    by_cases hc : c.toNat = 9
    · rw [if_pos hc]
      have := cellsR_few r []
      simp; omega
    rw [if_neg hc]
    have := cellsR_few r (p ++ [c])
    simp; omega
theorem linesR_le : ∀ (r p x : List UInt8), x ∈ (linesR p r).1 → x.length ≤ p.length + r.length
  | [], p, x, h => by simp [linesR] at h
  | c :: r, p, x, h => by
    rw [linesR] at h
    by_cases hc : c.toNat = 10
    · rw [if_pos hc] at h
      rcases List.mem_cons.1 h with rfl | h
      · omega
      have := linesR_le r [] x h
      simp at this ⊢; omega
    rw [if_neg hc] at h
    have := linesR_le r (p ++ [c]) x h
    simp at this ⊢; omega
theorem linesR_few : ∀ (r p : List UInt8), (linesR p r).1.length ≤ r.length
  | [], p => by simp [linesR]
  | c :: r, p => by
    rw [linesR]
    by_cases hc : c.toNat = 10
    · rw [if_pos hc]
      have := linesR_few r []
      simp; omega
    rw [if_neg hc]
    have := linesR_few r (p ++ [c])
    simp; omega
end Go.Proofs.YtgabadlneeffkaaGreatDoor.G

/- What the reference's functions that read a term come to: tpre and tread. -/
namespace Go.Proofs.YtgabadlneeffkaaGreatDoor.G
open Go.RowKit Go.Lib Go.Proofs.YtgabadlneeffkaaGreatDoor Go.Proofs.YtgabadlneeffkaaGreatDoorW.PrintWords Go.Proofs.YtgabadlneeffkaaGreatDoorW.PrintLast
set_option linter.unusedVariables false
set_option linter.unusedSimpArgs false

theorem place_loop (s : ByteArray) (hs : s.size ≤ 70000) (c : UInt8) : ∀ (r : List UInt8) (i : Nat), s.data.toList.drop i = r →
    Ev (fun k => legationref01_place.l0 k s (c.toNat : Int) (i : Int)) (match cutC c r with | some x => ((i + x.1.length : Nat) : Int) | none => -1) := by
  intro r
  induction r with
  | nil =>
    intro i hd
    have hz := size_of_drop hd
    refine Ev.step (fun k => by rw [legationref01_place.l0]) ?_
    simp only [if_neg (show ¬ ((i : Int) < (s.size : Int)) by omega)]
    exact Ev.now _
  | cons b r ih =>
    intro i hd
    obtain ⟨hb, hlt, hr⟩ := bt_of_drop hd
    refine Ev.step (fun k => by rw [legationref01_place.l0]) ?_
    simp only [if_pos (show (i : Int) < (s.size : Int) by omega), if_pos (show (0 : Int) ≤ (i : Int) by omega), hb, wrap_succ (show i < 9223372036854775807 by omega)]
    rw [cutC]
    by_cases h : b = c
    · subst h
      simp only [if_true]
      exact Ev.now _
    have hn : ¬ (b.toNat : Int) = (c.toNat : Int) := fun e => h (UInt8.toNat_inj.1 (by omega))
    simp only [if_neg hn, if_neg h]
    have h2 := ih (i + 1) hr
    cases hc : cutC c r with
    | none => rw [hc] at h2; exact h2
    | some x =>
      rw [hc] at h2
      simp only [Option.map_some, List.length_cons] at h2 ⊢
      rw [show i + (x.1.length + 1) = i + 1 + x.1.length by omega]
      exact h2
theorem place_ev (s : ByteArray) (hs : s.size ≤ 70000) : Ev (fun k => legationref01_place.f k s 62) (match cutC 62 s.data.toList with | some x => (x.1.length : Int) | none => -1) := by
  have h := place_loop s hs 62 s.data.toList 0 rfl
  simp only [Nat.zero_add] at h
  exact h
theorem closing_loop (s : ByteArray) (hs : s.size ≤ 70000) : ∀ (n : Nat) (r : List UInt8) (i : Nat), r.length ≤ n → s.data.toList.drop i = r →  i ≤ s.size + 2 →
    Ev (fun k => legationref01_closing.l0 k s (i : Int)) (match clS r with | some x => ((i + x.1.length : Nat) : Int) | none => -1) := by
  intro n
  have nil : ∀ i, s.data.toList.drop i = [] → Ev (fun k => legationref01_closing.l0 k s (i : Int)) (-1) := by
    intro i hd
    have hz := size_of_drop hd
    refine Ev.step (fun k => by rw [legationref01_closing.l0]) ?_
    simp only [if_neg (show ¬ ((i : Int) < (s.size : Int)) by omega)]
    exact Ev.now _
  induction n with
  | zero =>
    intro r i hl hd hi
    obtain rfl : r = [] := List.length_eq_zero_iff.1 (Nat.le_zero.1 hl)
    exact nil i hd
  | succ n ih =>
    intro r i hl hd hi
    cases r with
    | nil => exact nil i hd
    | cons b r =>
      obtain ⟨hb, hlt, hr⟩ := bt_of_drop hd
      refine Ev.step (fun k => by rw [legationref01_closing.l0]) ?_
      simp only [if_pos (show (i : Int) < (s.size : Int) by omega), if_pos (show (0 : Int) ≤ (i : Int) by omega), hb, wrap_succ (show i < 9223372036854775807 by omega), wrap_succ (show i + 1 < 9223372036854775807 by omega)]
      rw [clS_cons]
      by_cases h2 : b.toNat = 92
      · simp only [if_pos (show (b.toNat : Int) = 92 by omega), if_pos h2]
        cases r with
        | nil => exact nil (i + 1 + 1) (by rw [← List.drop_drop, hr]; rfl)
        | cons c r2 =>
          obtain ⟨_, hlt2, hr2⟩ := bt_of_drop hr
          have h := ih r2 (i + 1 + 1) (by simp at hl; omega) hr2 (by omega)
          simp only
          cases hc : clS r2 with
          | none => rw [hc] at h; exact h
          | some x =>
            rw [hc] at h
            simp only [Option.map_some, List.length_cons] at h ⊢
            rw [show i + (x.1.length + 1 + 1) = i + 1 + 1 + x.1.length by omega]
            exact h
      simp only [if_neg (show ¬ (b.toNat : Int) = 92 by omega), if_neg h2]
      by_cases h1 : b.toNat = 34
      · simp only [if_pos (show (b.toNat : Int) = 34 by omega), if_pos h1]
        exact Ev.now _
      simp only [if_neg (show ¬ (b.toNat : Int) = 34 by omega), if_neg h1]
      have h := ih r (i + 1) (by simpa using hl) hr (by omega)
      cases hc : clS r with
      | none => rw [hc] at h; exact h
      | some x =>
        rw [hc] at h
        simp only [Option.map_some, List.length_cons] at h ⊢
        rw [show i + (x.1.length + 1) = i + 1 + x.1.length by omega]
        exact h
def unV (acc : List UInt8) : Option (List UInt8) → ByteArray × Bool
  | some m => (ofL (acc ++ m), true)
  | none => (⟨#[]⟩, false)
theorem unV_cons (acc : List UInt8) (b : UInt8) (o : Option (List UInt8)) : unV acc (o.map (b :: ·)) = unV (acc ++ [b]) o := by
  cases o with
  | none => rfl
  | some m => simp [unV]
theorem ext_one {s : ByteArray} {i : Nat} {c : UInt8} {r : List UInt8} (h : s.data.toList.drop i = c :: r) : s.extract i (i + 1) = ofL [c] := by
  rw [ext_ofL, h, show i + 1 - i = 1 by omega]
  rfl
theorem un_loop (s : ByteArray) (hs : s.size ≤ 70000) : ∀ (n : Nat) (r : List UInt8) (i : Nat) (acc : List UInt8), r.length ≤ n → s.data.toList.drop i = r → acc.length ≤ i → i ≤ s.size →
    Ev (fun k => legationref01_unescaped.l0 k s (ofL acc) (i : Int)) (unV acc (unR r)) := by
  intro n
  have nil : ∀ i acc, s.data.toList.drop i = [] → Ev (fun k => legationref01_unescaped.l0 k s (ofL acc) (i : Int)) (unV acc (unR [])) := by
    intro i acc hd
    have hz := size_of_drop hd
    refine Ev.step (fun k => by rw [legationref01_unescaped.l0]) ?_
    simp only [if_neg (show ¬ ((i : Int) < (s.size : Int)) by omega)]
    rw [show unV acc (unR []) = (ofL acc, true) by rw [show unR [] = some [] from rfl, unV, List.append_nil]]
    exact Ev.now _
  induction n with
  | zero =>
    intro r i acc hl hd ha hi
    obtain rfl : r = [] := List.length_eq_zero_iff.1 (Nat.le_zero.1 hl)
    exact nil i acc hd
  | succ n ih =>
    intro r i acc hl hd ha hi
    cases r with
    | nil => exact nil i acc hd
    | cons b r =>
      obtain ⟨hb, hlt, hr⟩ := bt_of_drop hd
      refine Ev.step (fun k => by rw [legationref01_unescaped.l0]) ?_
      simp only [if_pos (show (i : Int) < (s.size : Int) by omega), if_pos (show (0 : Int) ≤ (i : Int) by omega), hb, wrap_succ (show i < 9223372036854775807 by omega), Int.toNat_natCast, if_pos (show ((i : Int) ≤ ((i + 1 : Nat) : Int)) by omega), if_pos (show (((i + 1 : Nat) : Int) ≤ (s.size : Int)) by omega), if_pos (show (0 : Int) ≤ ((i + 1 : Nat) : Int) by omega), ext_one hd, ofL_size, List.length_singleton, if_pos (show acc.length + 1 ≤ 9223372036854775807 by omega), ofL_append]
      rw [unR_cons]
      by_cases h2 : b.toNat = 92
      · simp only [if_pos (show (b.toNat : Int) = 92 by omega), if_pos h2]
        cases r with
        | nil =>
          have hz := size_of_drop hr
          simp only [if_pos (show ((i + 1 : Nat) : Int) ≥ (s.size : Int) by omega)]
          exact Ev.now _
        | cons c r2 =>
          obtain ⟨hb2, hlt2, hr2⟩ := bt_of_drop hr
          simp only [if_neg (show ¬ ((i + 1 : Nat) : Int) ≥ (s.size : Int) by omega), if_pos (show ((i + 1 : Nat) : Int) < (s.size : Int) by omega), hb2]
          have key : ∀ t : Bool, t = (c.toNat == 34 || c.toNat == 92) → Ev (fun k => legationref01_unescaped.j1 k s (ofL acc) ((i + 1 : Nat) : Int) (c.toNat : Int) t) (unV acc (match unescB c with | some d => (unR r2).map (d :: ·) | none => none)) := by
            rintro t rfl
            refine Ev.step (fun k => by rw [legationref01_unescaped.j1]) ?_
            have go : ∀ d : UInt8, Ev (fun k => legationref01_unescaped.l0 k s (ofL (acc ++ [d])) ((i + 1 + 1 : Nat) : Int)) (unV acc ((unR r2).map (d :: ·))) := by
              intro d
              rw [unV_cons]
              exact ih r2 (i + 1 + 1) (acc ++ [d]) (by simp at hl; omega) hr2 (by simp; omega) (by omega)
            simp only [if_pos (show (0 : Int) ≤ ((i + 1 : Nat) : Int) by omega), wrap_succ (show i + 1 < 9223372036854775807 by omega), Int.toNat_natCast, if_pos (show (((i + 1 : Nat) : Int) ≤ ((i + 1 + 1 : Nat) : Int)) by omega), if_pos (show (((i + 1 + 1 : Nat) : Int) ≤ (s.size : Int)) by omega), ext_one hr, ofL_size, List.length_singleton, if_pos (show acc.length + 1 ≤ 9223372036854775807 by omega), ofL_append, show (⟨#[10]⟩ : ByteArray) = ofL [10] from rfl, show (⟨#[9]⟩ : ByteArray) = ofL [9] from rfl]
            unfold unescB
            by_cases e1 : c.toNat = 34
            · simp only [e1, beq_self_eq_true, Bool.true_or, if_true]
              rw [byte_eq e1 (by decide)]
              exact go 34
            by_cases e2 : c.toNat = 92
            · simp only [e2, beq_self_eq_true, Bool.or_true, if_true, if_neg (show ¬ (92 : Nat) = 34 by decide)]
              rw [byte_eq e2 (by decide)]
              exact go 92
            simp only [beq_eq_false_iff_ne.mpr e1, beq_eq_false_iff_ne.mpr e2, Bool.or_self, Bool.false_eq_true, if_false, if_neg e1, if_neg e2]
            by_cases e3 : c.toNat = 110
            · simp only [if_pos (show (c.toNat : Int) = 110 by omega), if_pos e3]
              exact go 10
            simp only [if_neg (show ¬ (c.toNat : Int) = 110 by omega), if_neg e3]
            by_cases e4 : c.toNat = 116
            · simp only [if_pos (show (c.toNat : Int) = 116 by omega), if_pos e4]
              exact go 9
            simp only [if_neg (show ¬ (c.toNat : Int) = 116 by omega), if_neg e4]
            exact Ev.now _
          by_cases e1 : c.toNat = 34
          · simp only [if_pos (show (c.toNat : Int) = 34 by omega)]
            exact key _ (by rw [Bool.eq_iff_iff]; simp [e1])
          simp only [if_neg (show ¬ (c.toNat : Int) = 34 by omega)]
          refine key _ ?_
          rw [Bool.eq_iff_iff, beq_iff_eq, Bool.or_eq_true, beq_iff_eq, beq_iff_eq]
          omega
      simp only [if_neg (show ¬ (b.toNat : Int) = 92 by omega), if_neg h2]
      by_cases h1 : b.toNat = 34
      · simp only [if_pos (show (b.toNat : Int) = 34 by omega), if_pos (.inl h1 : b.toNat = 34 ∨ b.toNat = 10 ∨ b.toNat = 9)]
        exact Ev.now _
      by_cases h3 : b.toNat = 10
      · simp only [if_neg (show ¬ (b.toNat : Int) = 34 by omega), if_pos (show (b.toNat : Int) = 10 by omega), if_pos (.inr (.inl h3) : b.toNat = 34 ∨ b.toNat = 10 ∨ b.toNat = 9)]
        exact Ev.now _
      by_cases h4 : b.toNat = 9
      · simp only [if_neg (show ¬ (b.toNat : Int) = 34 by omega), if_neg (show ¬ (b.toNat : Int) = 10 by omega), if_pos (show (b.toNat : Int) = 9 by omega), if_pos (.inr (.inr h4) : b.toNat = 34 ∨ b.toNat = 10 ∨ b.toNat = 9)]
        exact Ev.now _
      simp only [if_neg (show ¬ (b.toNat : Int) = 34 by omega), if_neg (show ¬ (b.toNat : Int) = 10 by omega), if_neg (show ¬ (b.toNat : Int) = 9 by omega), if_neg (show ¬ (b.toNat = 34 ∨ b.toNat = 10 ∨ b.toNat = 9) by omega)]
      rw [unV_cons]
      exact ih r (i + 1) (acc ++ [b]) (by simpa using hl) hr (by simp; omega) (by omega)
theorem un_ev (s : ByteArray) (hs : s.size ≤ 70000) : Ev (fun k => legationref01_unescaped.f k s) (unV [] (unR s.data.toList)) :=
  un_loop s hs _ s.data.toList 0 [] (Nat.le_refl _) rfl (by simp) (by omega)
theorem nlen_loop (s : ByteArray) (hs : s.size ≤ 70000) : ∀ (m n : Nat), n + m = nameN s.data.toList → Ev (fun k => legationref01_nameLen.l0 k s (n : Int)) ((nameN s.data.toList : Nat) : Int) := by
  intro m
  have h1 := nameN_le s.data.toList
  have h2 := nameN_32 s.data.toList
  rw [size_toList] at h1
  induction m with
  | zero =>
    intro n hn
    refine Ev.step (fun k => by rw [legationref01_nameLen.l0]) ?_
    rw [Nat.add_zero] at hn
    rw [← hn] at h1 h2 ⊢
    by_cases hl : n < s.size
    · by_cases h32 : n < 32
      · simp only [if_pos (show (n : Int) < (s.size : Int) by omega), if_pos (show (n : Int) < 32 by omega), wrap_succ (show n < 9223372036854775807 by omega), if_pos (show (0 : Int) ≤ ((n + 1 : Nat) : Int) by omega), if_pos (show (((n + 1 : Nat) : Int) ≤ (s.size : Int)) by omega), Int.toNat_natCast]
        refine Ev.bind (rName_ev (s.extract 0 (n + 1))) ?_
        rw [ext_toList, List.drop_zero, Nat.sub_zero, nameN_step _ _ (by rw [size_toList]; exact hl), decide_eq_false (by omega)]
        simp only [Bool.false_eq_true, if_false]
        exact Ev.now _
      simp only [if_pos (show (n : Int) < (s.size : Int) by omega), if_neg (show ¬ (n : Int) < 32 by omega)]
      exact Ev.now _
    simp only [if_neg (show ¬ (n : Int) < (s.size : Int) by omega)]
    exact Ev.now _
  | succ m ih =>
    intro n hn
    refine Ev.step (fun k => by rw [legationref01_nameLen.l0]) ?_
    simp only [if_pos (show (n : Int) < (s.size : Int) by omega), if_pos (show (n : Int) < 32 by omega), wrap_succ (show n < 9223372036854775807 by omega), if_pos (show (0 : Int) ≤ ((n + 1 : Nat) : Int) by omega), if_pos (show (((n + 1 : Nat) : Int) ≤ (s.size : Int)) by omega), Int.toNat_natCast]
    refine Ev.bind (rName_ev (s.extract 0 (n + 1))) ?_
    rw [ext_toList, List.drop_zero, Nat.sub_zero, nameN_step _ _ (by rw [size_toList]; omega), decide_eq_true (by omega)]
    simp only [if_true]
    exact ih (n + 1) (by omega)
theorem nlen_ev (s : ByteArray) (hs : s.size ≤ 70000) : Ev (fun k => legationref01_nameLen.f k s) ((nameN s.data.toList : Nat) : Int) :=
  nlen_loop s hs _ 0 (Nat.zero_add _)
def typV (x r : List UInt8) : Int × ByteArray × ByteArray × ByteArray × Int := val5 r.length (behindR ⟨2, x, [], []⟩ r)
theorem typ_lang (s : ByteArray) (hs : s.size ≤ 70000) (x : ByteArray) : ∀ (r p : List UInt8), s.data.toList.drop 1 = p ++ r →  1 ≤ s.size →
    Ev (fun k => legationref01_typed.l0 k s ((1 + p.length : Nat) : Int) 2 x ⟨#[]⟩ ⟨#[]⟩) (if okLang (p ++ r.takeWhile langB) = true then (2, x, ⟨#[]⟩, ofL (p ++ r.takeWhile langB), ((1 + p.length + (r.takeWhile langB).length : Nat) : Int)) else (2, x, ⟨#[]⟩, ⟨#[]⟩, 0)) := by
  intro r
  have stop : ∀ (p r : List UInt8), s.data.toList.drop 1 = p ++ r → Ev (fun k => (legationref01_IsLang.f k (s.extract 1 (1 + p.length))).bind fun t => (if t = true then (some ((2 : Int), x, (⟨#[]⟩ : ByteArray), s.extract 1 (1 + p.length), ((1 + p.length : Nat) : Int))) else (some ((2 : Int), x, (⟨#[]⟩ : ByteArray), (⟨#[]⟩ : ByteArray), (0 : Int))))) (if okLang p = true then (2, x, ⟨#[]⟩, ofL p, ((1 + p.length : Nat) : Int)) else (2, x, ⟨#[]⟩, ⟨#[]⟩, 0)) := by
    intro p r hd
    have e : s.extract 1 (1 + p.length) = ofL p := by
      rw [ext_ofL, hd, Nat.add_sub_cancel_left, List.take_left']
      rfl
    rw [e]
    refine Ev.bind (rLang_ev (ofL p)) ?_
    rw [ofL_toList]
    by_cases h : okLang p = true
    · simp only [h, if_true]; exact Ev.now _
    simp only [if_neg h]; exact Ev.now _
  induction r with
  | nil =>
    intro p hd h1
    rw [List.append_nil] at hd
    have hl : 1 + p.length = s.size := by
      have := congrArg List.length hd
      rw [List.length_drop, size_toList] at this
      omega
    refine Ev.step (fun k => by rw [legationref01_typed.l0]) ?_
    simp only [if_neg (show ¬ (((1 + p.length : Nat) : Int) < (s.size : Int)) by omega), if_pos (show (1 : Int) ≤ ((1 + p.length : Nat) : Int) by omega), if_pos (show ((1 + p.length : Nat) : Int) ≤ (s.size : Int) by omega), Int.toNat_natCast, List.takeWhile_nil, List.append_nil, List.length_nil, Nat.add_zero]
    exact stop p [] (by rw [List.append_nil]; exact hd)
  | cons c r ih =>
    intro p hd h1
    have hd2 : s.data.toList.drop (1 + p.length) = c :: r := by
      rw [← List.drop_drop, hd, List.drop_left']
      rfl
    obtain ⟨hb, hlt, hr⟩ := bt_of_drop hd2
    refine Ev.step (fun k => by rw [legationref01_typed.l0]) ?_
    simp only [if_pos (show (((1 + p.length : Nat) : Int) < (s.size : Int)) by omega), if_pos (show (0 : Int) ≤ ((1 + p.length : Nat) : Int) by omega), hb, btw_eq, Option.bind_some, wrap_succ (show 1 + p.length < 9223372036854775807 by omega), if_pos (show (1 : Int) ≤ ((1 + p.length : Nat) : Int) by omega), if_pos (show ((1 + p.length : Nat) : Int) ≤ (s.size : Int) by omega), Int.toNat_natCast]
    have e : (decide ((97 : Int) ≤ (c.toNat : Int)) && decide ((c.toNat : Int) ≤ 122)) = langB c := by
      unfold langB
      rw [Bool.eq_iff_iff]
      simp only [Bool.and_eq_true, decide_eq_true_eq]
      omega
    rw [e]
    by_cases hc : langB c = true
    · simp only [hc, if_true]
      have h := ih (p ++ [c]) (by rw [List.append_assoc]; exact hd) h1
      rw [List.takeWhile_cons_of_pos hc]
      rw [List.length_append, List.length_singleton, List.append_assoc] at h
      rw [List.length_cons, show 1 + p.length + ((r.takeWhile langB).length + 1) = 1 + (p.length + 1) + (r.takeWhile langB).length by omega]
      exact h
    simp only [hc, Bool.false_eq_true, if_false]
    rw [List.takeWhile_cons_of_neg hc, List.append_nil, List.length_nil, Nat.add_zero]
    exact stop p (c :: r) hd
theorem cut_front {a b c : UInt8} {r : List UInt8} (ha : a ≠ 62) (hb : b ≠ 62) (hc : c ≠ 62) : cutC 62 (a :: b :: c :: r) = (cutC 62 r).map fun x => (a :: b :: c :: x.1, x.2) := by
  rw [cutC, if_neg ha, cutC, if_neg hb, cutC, if_neg hc]
  cases cutC 62 r <;> rfl
theorem typed_ev (s : ByteArray) (hs : s.size ≤ 70000) (x : ByteArray) : Ev (fun k => legationref01_typed.f k 2 x ⟨#[]⟩ ⟨#[]⟩ s) (typV x.data.toList s.data.toList) := by
  have hx : ofL x.data.toList = x := ofL_data x
  have dull : typV x.data.toList s.data.toList = val5 s.data.toList.length (⟨2, x.data.toList, [], []⟩, s.data.toList) → typV x.data.toList s.data.toList = (2, x, ⟨#[]⟩, ⟨#[]⟩, 0) := by
    intro h
    rw [h]
    unfold val5
    simp only [hx, Nat.sub_self]
    rfl
  have j1f : Ev (fun k => legationref01_typed.j1 k s false 2 x ⟨#[]⟩ ⟨#[]⟩) (2, x, ⟨#[]⟩, ⟨#[]⟩, 0) := by
    refine Ev.step (fun k => by rw [legationref01_typed.j1]) ?_
    simp only [Bool.false_eq_true, if_false]
    exact Ev.now _
  -- not a type: a language, or nothing
  have j0f : (∀ r2, s.data.toList ≠ 94 :: 94 :: 60 :: r2) ∨ s.size ≤ 3 → Ev (fun k => legationref01_typed.j0 k s false 2 x ⟨#[]⟩ ⟨#[]⟩) (typV x.data.toList s.data.toList) := by
    intro hno
    refine Ev.step (fun k => by rw [legationref01_typed.j0]) ?_
    simp only [Bool.false_eq_true, if_false]
    cases hl : s.data.toList with
    | nil =>
      have hz : s.size = 0 := by rw [← size_toList, hl]; rfl
      simp only [hz, if_neg (show ¬ (((0 : Nat) : Int) > 0) by decide)]
      have hd := dull (by rw [hl]; rfl)
      rw [hl] at hd
      rw [hd]
      exact j1f
    | cons a r1 =>
      have hz : s.size = r1.length + 1 := by rw [← size_toList, hl]; rfl
      obtain ⟨hb, _, hr⟩ := bt_of_drop (s := s) (i := 0) (by rw [List.drop_zero]; exact hl)
      simp only [if_pos (show (s.size : Int) > 0 by omega), if_pos (show 0 < (s.size : Int) by omega), show bt s 0 = (a.toNat : Int) from hb]
      by_cases h2 : a.toNat = 64
      · simp only [h2, show (((64 : Nat) : Int) == 64) = true from rfl]
        refine Ev.step (fun k => by rw [legationref01_typed.j1]) ?_
        simp only [if_true]
        have h := typ_lang s hs x r1 [] (by rw [hr]; rfl) (by omega)
        simp only [List.nil_append, List.length_nil, Nat.add_zero] at h
        have htd := congrArg List.length (List.takeWhile_append_dropWhile (p := langB) (l := r1))
        rw [List.length_append] at htd
        unfold typV
        rw [behindR_cons, if_neg (by omega), if_pos h2]
        by_cases h3 : okLang (r1.takeWhile langB) = true
        · rw [if_pos h3] at h ⊢
          unfold val5
          simp only [hx, List.length_cons]
          rw [show ofL [] = ⟨#[]⟩ from rfl, show r1.length + 1 - (r1.dropWhile langB).length = 1 + (r1.takeWhile langB).length by omega]
          exact h
        rw [if_neg h3] at h ⊢
        unfold val5
        simp only [hx, Nat.sub_self]
        exact h
      simp only [beq_eq_false_iff_ne.mpr (show ¬ ((a.toNat : Int) = 64) by omega)]
      have hd : typV x.data.toList (a :: r1) = val5 (a :: r1).length (⟨2, x.data.toList, [], []⟩, a :: r1) := by
        unfold typV
        congr 1
        rw [behindR_cons]
        by_cases h1 : a.toNat = 94
        · rw [if_pos h1]
          cases r1 with
          | nil => rfl
          | cons b r2 =>
            simp only
            by_cases hb2 : b.toNat = 94
            · rw [if_pos hb2]
              cases hi : iriR r2 with
              | none => rfl
              | some pq =>
                exfalso
                obtain ⟨e1, e2⟩ := iriR_some (show iriR r2 = some (pq.1, pq.2) from hi)
                rcases hno with hno | hno
                · rw [e1, byte_eq h1 (by decide), byte_eq hb2 (by decide)] at hl
                  exact hno _ hl
                have := (okIri_len e2).2
                rw [e1] at hz
                simp at hz
                omega
            rw [if_neg hb2]
        rw [if_neg h1, if_neg h2]
      have hd2 := dull (by rw [hl]; exact hd)
      rw [hl] at hd2
      rw [hd2]
      exact j1f
  unfold legationref01_typed.f
  by_cases h3 : s.size ≤ 3
  · simp only [if_neg (show ¬ ((s.size : Int) > 3) by omega)]
    exact j0f (.inr h3)
  match hl : s.data.toList with
  | [] => have := size_toList s; rw [hl] at this; simp at this; omega
  | [a] => have := size_toList s; rw [hl] at this; simp at this; omega
  | [a, b] => have := size_toList s; rw [hl] at this; simp at this; omega
  | a :: b :: c :: r2 =>
    rw [← hl]
    obtain ⟨hb0, _, hr0⟩ := bt_of_drop (s := s) (i := 0) (by rw [List.drop_zero]; exact hl)
    obtain ⟨hb1, _, hr1⟩ := bt_of_drop hr0
    obtain ⟨hb2, _, hr2⟩ := bt_of_drop hr1
    simp only [if_pos (show ((s.size : Int) > 3) by omega), if_pos (show (0 < (s.size : Int)) by omega), if_pos (show (1 < (s.size : Int)) by omega), if_pos (show (2 < (s.size : Int)) by omega), show bt s 0 = (a.toNat : Int) from hb0, show bt s 1 = (b.toNat : Int) from hb1, show bt s 2 = (c.toNat : Int) from hb2]
    by_cases h0 : a.toNat = 94
    case neg =>
      simp only [if_neg (show ¬ (a.toNat : Int) = 94 by omega)]
      exact j0f (.inl fun r e => h0 (by rw [hl] at e; injection e with e _; rw [e]; rfl))
    by_cases h1 : b.toNat = 94
    case neg =>
      simp only [if_pos (show (a.toNat : Int) = 94 by omega), if_neg (show ¬ (b.toNat : Int) = 94 by omega)]
      exact j0f (.inl fun r e => h1 (by rw [hl] at e; injection e with _ e; injection e with e _; rw [e]; rfl))
    simp only [if_pos (show (a.toNat : Int) = 94 by omega), if_pos (show (b.toNat : Int) = 94 by omega)]
    by_cases h2 : c.toNat = 60
    case neg =>
      simp only [beq_eq_false_iff_ne.mpr (show ¬ (c.toNat : Int) = 60 by omega)]
      exact j0f (.inl fun r e => h2 (by rw [hl] at e; injection e with _ e; injection e with _ e; injection e with e _; rw [e]; rfl))
    simp only [h2, show (((60 : Nat) : Int) == 60) = true from rfl]
    obtain rfl := byte_eq h0 (by decide)
    obtain rfl := byte_eq h1 (by decide)
    obtain rfl := byte_eq h2 (by decide)
    refine Ev.step (fun k => by rw [legationref01_typed.j0]) ?_
    simp only [if_true]
    refine Ev.bind (place_ev s hs) ?_
    have eb : ∀ o, iriR (UInt8.ofNat 60 :: r2) = o → behindR ⟨2, x.data.toList, [], []⟩ s.data.toList = (match o with | some (p, q) => (⟨2, x.data.toList, p, []⟩, q) | none => (⟨2, x.data.toList, [], []⟩, s.data.toList)) := by
      rintro o rfl
      rw [hl, behindR_cons, if_pos (by decide)]
      simp only
      rw [if_pos (by decide)]
      cases iriR (UInt8.ofNat 60 :: r2) <;> rfl
    have ei : iriR (UInt8.ofNat 60 :: r2) = (match cutC 62 r2 with | some (p, q) => if okIri p then some (p, q) else none | none => none) := by
      unfold iriR
      simp only
      rw [if_pos (by decide)]
      rfl
    have hcf := cut_front (a := UInt8.ofNat 94) (b := UInt8.ofNat 94) (c := UInt8.ofNat 60) (r := r2) (by decide) (by decide) (by decide)
    rw [← hl] at hcf
    rw [hcf]
    cases hc : cutC 62 r2 with
    | none =>
      simp only [Option.map_none, if_neg (show ¬ ((-1 : Int) > 0) by decide)]
      rw [dull]
      · exact Ev.now _
      unfold typV
      rw [eb none (by rw [ei, hc])]
    | some pq =>
      have hpq := (cutC_some (show cutC 62 r2 = some (pq.1, pq.2) from hc)).1
      have hz : s.size = r2.length + 3 := by rw [← size_toList, hl]; rfl
      have hrl : r2.length = pq.1.length + pq.2.length + 1 := by
        have := congrArg List.length hpq
        rw [List.length_append, List.length_cons] at this
        omega
      simp only [Option.map_some, List.length_cons]
      have ee : s.extract 3 (pq.1.length + 1 + 1 + 1) = ofL pq.1 := by
        rw [ext_ofL, show s.data.toList.drop 3 = r2 from hr2, show pq.1.length + 1 + 1 + 1 - 3 = pq.1.length by omega, hpq, List.take_left']
        rfl
      simp only [if_pos (show (((pq.1.length + 1 + 1 + 1 : Nat) : Int) > 0) by omega), if_pos (show ((3 : Int) ≤ ((pq.1.length + 1 + 1 + 1 : Nat) : Int)) by omega), if_pos (show (((pq.1.length + 1 + 1 + 1 : Nat) : Int) ≤ (s.size : Int)) by omega), Int.toNat_natCast, ee, wrap_succ (show pq.1.length + 1 + 1 + 1 < 9223372036854775807 by omega)]
      refine Ev.bind (rIri_ev (ofL pq.1)) ?_
      rw [ofL_toList]
      by_cases h4 : okIri pq.1 = true
      · simp only [h4, if_true]
        unfold typV
        rw [eb (some pq) (by rw [ei, hc]; exact if_pos h4)]
        unfold val5
        simp only [hx, size_toList]
        rw [show ofL [] = ⟨#[]⟩ from rfl, show s.size - pq.2.length = pq.1.length + 1 + 1 + 1 + 1 by omega]
        exact Ev.now _
      simp only [if_neg h4]
      rw [dull]
      · exact Ev.now _
      unfold typV
      rw [eb none (by rw [ei, hc]; exact if_neg h4)]
theorem dropWhile_le (p : UInt8 → Bool) (l : List UInt8) : (l.dropWhile p).length ≤ l.length := by
  have := congrArg List.length (List.takeWhile_append_dropWhile (p := p) (l := l))
  rw [List.length_append] at this
  omega
theorem behindR_le (t : Tm) (r : List UInt8) : (behindR t r).2.length ≤ r.length := by
  cases r with
  | nil => exact Nat.le_refl _
  | cons a r1 =>
    rw [behindR_cons]
    by_cases h1 : a.toNat = 94
    · rw [if_pos h1]
      cases r1 with
      | nil => exact Nat.le_refl _
      | cons b r2 =>
        simp only
        by_cases h2 : b.toNat = 94
        · rw [if_pos h2]
          cases hi : iriR r2 with
          | none => exact Nat.le_refl _
          | some x => have := iriR_len (show iriR r2 = some (x.1, x.2) from hi); simp; omega
        rw [if_neg h2]; exact Nat.le_refl _
    rw [if_neg h1]
    by_cases h2 : a.toNat = 64
    · rw [if_pos h2]
      by_cases h3 : okLang (r1.takeWhile langB) = true
      · rw [if_pos h3]; have := dropWhile_le langB r1; simp; omega
      rw [if_neg h3]; exact Nat.le_refl _
    rw [if_neg h2]; exact Nat.le_refl _
theorem okText_iff (l : List UInt8) : okText l = (decide (l.length ≤ 4096) && l.all textB) := rfl
theorem literal_ev (s : ByteArray) (hs : s.size ≤ 70000) (c : UInt8) (r : List UInt8) (hl : s.data.toList = c :: r) :
    Ev (fun k => legationref01_literal.f k s) (litV s.size [] (litR r)) := by
  unfold legationref01_literal.f
  have hd : s.data.toList.drop 1 = r := by rw [hl]; rfl
  have hz : s.size = r.length + 1 := by rw [← size_toList, hl]; rfl
  have h := closing_loop s hs r.length r 1 (Nat.le_refl _) hd (by omega)
  refine Ev.bind (g := fun k => legationref01_closing.f k s) h ?_
  rw [litR_cl r.length r (Nat.le_refl _)]
  cases hc : clS r with
  | none =>
    simp only [if_pos (show (-1 : Int) < 0 by decide), Option.bind_none]
    exact Ev.now _
  | some x =>
    have hx := clS_len r.length r (Nat.le_refl _) x hc
    have hrl : r.length = x.1.length + x.2.length + 1 := by
      have := congrArg List.length hx
      rw [List.length_append, List.length_cons] at this
      omega
    simp only [Option.bind_some]
    have e1 : s.extract 1 (1 + x.1.length) = ofL x.1 := by
      rw [ext_ofL, hd, Nat.add_sub_cancel_left, hx, List.take_left']
      rfl
    have e2 : s.extract (1 + x.1.length + 1) s.size = ofL x.2 := by
      rw [ext_end, show 1 + x.1.length + 1 = 1 + (x.1.length + 1) by omega, ← List.drop_drop, hd, hx, ← List.drop_drop, List.drop_left']
      · rfl
      rfl
    simp only [if_neg (show ¬ (((1 + x.1.length : Nat) : Int) < 0) by omega), if_pos (show ((1 : Int) ≤ ((1 + x.1.length : Nat) : Int)) by omega), if_pos (show (((1 + x.1.length : Nat) : Int) ≤ (s.size : Int)) by omega), Int.toNat_natCast, wrap_succ (show 1 + x.1.length < 9223372036854775807 by omega), if_pos (show ((0 : Int) ≤ ((1 + x.1.length + 1 : Nat) : Int)) by omega), if_pos (show (((1 + x.1.length + 1 : Nat) : Int) ≤ (s.size : Int)) by omega), e1, e2]
    refine Ev.bind (un_ev (ofL x.1) (by rw [ofL_size]; omega)) ?_
    rw [ofL_toList]
    cases hu : unR x.1 with
    | none =>
      simp only [unV, Bool.false_eq_true, if_false, Option.map_none]
      exact Ev.now _
    | some y =>
      simp only [unV, if_true, Option.map_some, List.nil_append, ofL_size, litV]
      by_cases h4 : y.length ≤ 4096
      case neg =>
        simp only [if_pos (show ((y.length : Int) > 4096) by omega), okText_iff, decide_eq_false h4, Bool.false_and, Bool.false_eq_true, if_false]
        exact Ev.now _
      simp only [if_neg (show ¬ ((y.length : Int) > 4096) by omega)]
      refine Ev.bind (all_ev (ofL y) (by rw [ofL_size]; omega) 2) ?_
      rw [ofL_toList, show (y.all (kindB 2)) = okText y by
        rw [okText_iff, decide_eq_true h4, Bool.true_and]
        rfl]
      by_cases h5 : okText y = true
      · simp only [h5, if_true]
        have ht := typed_ev (ofL x.2) (by rw [ofL_size]; omega) (ofL y)
        rw [ofL_toList, ofL_toList] at ht
        refine Ev.bind ht ?_
        have hk := behindR_k ⟨2, y, [], []⟩ x.2
        have hq : (behindR ⟨2, y, [], []⟩ x.2).2.length ≤ x.2.length := behindR_le _ _
        simp only [typV, val5]
        rw [show wrap64 (((1 + x.1.length + 1 : Nat) : Int) + ((x.2.length - (behindR ⟨2, y, [], []⟩ x.2).2.length : Nat) : Int)) = ((s.size - (behindR ⟨2, y, [], []⟩ x.2).2.length : Nat) : Int) by unfold wrap64; omega]
        exact Ev.now _
      simp only [if_neg h5]
      exact Ev.now _
end Go.Proofs.YtgabadlneeffkaaGreatDoor.G

/- What the reference's Prefix, Read and the functions that part a reply's bytes come to. -/
namespace Go.Proofs.YtgabadlneeffkaaGreatDoor.G
open Go.RowKit Go.Lib Go.Proofs.YtgabadlneeffkaaGreatDoor Go.Proofs.YtgabadlneeffkaaGreatDoorW.PrintWords Go.Proofs.YtgabadlneeffkaaGreatDoorW.PrintLast
set_option linter.unusedVariables false
set_option linter.unusedSimpArgs false

theorem rprefix_ev (s : ByteArray) (hs : s.size ≤ 70000) : Ev (fun k => legationref01_Prefix.f k s) (preV s.size (tpre s.data.toList)) := by
  unfold legationref01_Prefix.f
  have hsz := size_toList s
  match hl : s.data.toList with
  | [] =>
    rw [hl] at hsz
    simp only [if_pos (show (s.size : Int) < 2 by simp at hsz; omega)]
    exact Ev.now _
  | [c] =>
    rw [hl] at hsz
    simp only [if_pos (show (s.size : Int) < 2 by simp at hsz; omega)]
    rw [tpre_cons]
    have e : preV s.size (if c.toNat = 60 then (iriR [c]).map fun x => ((⟨1, x.1, [], []⟩ : Tm), x.2)
    else if c.toNat = 34 then (litR []).bind fun x => if okText x.1 then some (behindR ⟨2, x.1, [], []⟩ x.2) else none
    else if c.toNat = 63 then (if 0 < nameN [] then some ((⟨4, ([] : List UInt8).take (nameN []), [], []⟩ : Tm), ([] : List UInt8).drop (nameN [])) else none)
    else none) = zero5 := by
      by_cases h1 : c.toNat = 60
      · simp only [if_pos h1, iriR, cutC]; rfl
      by_cases h2 : c.toNat = 34
      · simp only [if_neg h1, if_pos h2, litR]; rfl
      by_cases h3 : c.toNat = 63
      · simp only [if_neg h1, if_neg h2, if_pos h3, nameN]; rfl
      simp only [if_neg h1, if_neg h2, if_neg h3]; rfl
    simp only [ite_self]
    rw [e]
    exact Ev.now _
  | c :: d :: r =>
    rw [hl] at hsz
    obtain ⟨hb, _, hr⟩ := bt_of_drop (s := s) (i := 0) (by rw [List.drop_zero]; exact hl)
    obtain ⟨hb1, _, hr1⟩ := bt_of_drop hr
    simp only [List.length_cons] at hsz
    simp only [if_neg (show ¬ (s.size : Int) < 2 by omega), if_pos (show 0 < (s.size : Int) by omega), if_pos (show 1 < (s.size : Int) by omega), if_pos (show 1 ≤ (s.size : Int) by omega), if_pos (show 2 ≤ (s.size : Int) by omega), show bt s 0 = (c.toNat : Int) from hb, show bt s 1 = (d.toNat : Int) from hb1]
    rw [tpre_cons]
    by_cases h1 : c.toNat = 60
    · simp only [if_pos (show (c.toNat : Int) = 60 by omega), if_pos h1]
      refine Ev.bind (place_ev s hs) ?_
      have hcf : cutC 62 s.data.toList = (cutC 62 (d :: r)).map fun x => (c :: x.1, x.2) := by
        rw [hl, cutC, if_neg (fun e => by rw [e] at h1; cases h1)]
      rw [hcf]
      have ei : iriR (c :: d :: r) = (match cutC 62 (d :: r) with | some (p, q) => if okIri p then some (p, q) else none | none => none) := by
        unfold iriR
        simp only
        rw [if_pos h1]
        rfl
      rw [ei]
      cases hc : cutC 62 (d :: r) with
      | none =>
        simp only [Option.map_none, if_neg (show ¬ ((-1 : Int) > 0) by decide)]
        exact Ev.now _
      | some pq =>
        have hpq := (cutC_some (show cutC 62 (d :: r) = some (pq.1, pq.2) from hc)).1
        have hrl : r.length + 1 = pq.1.length + pq.2.length + 1 := by
          have := congrArg List.length hpq
          rw [List.length_append, List.length_cons, List.length_cons] at this
          omega
        simp only [Option.map_some, List.length_cons]
        have ee : s.extract 1 (pq.1.length + 1) = ofL pq.1 := by
          rw [ext_ofL, show s.data.toList.drop 1 = d :: r from hr, show pq.1.length + 1 - 1 = pq.1.length by omega, hpq, List.take_left']
          rfl
        simp only [if_pos (show (((pq.1.length + 1 : Nat) : Int) > 0) by omega), if_pos (show ((1 : Int) ≤ ((pq.1.length + 1 : Nat) : Int)) by omega), if_pos (show (((pq.1.length + 1 : Nat) : Int) ≤ (s.size : Int)) by omega), Int.toNat_natCast, ee, wrap_succ (show pq.1.length + 1 < 9223372036854775807 by omega)]
        refine Ev.bind (rIri_ev (ofL pq.1)) ?_
        rw [ofL_toList]
        by_cases h4 : okIri pq.1 = true
        · simp only [h4, if_true, Option.map_some, preV, val5]
          rw [show s.size - pq.2.length = pq.1.length + 1 + 1 by omega]
          exact Ev.now _
        simp only [if_neg h4, Option.map_none, preV]
        exact Ev.now _
    simp only [if_neg (show ¬ (c.toNat : Int) = 60 by omega), if_neg h1]
    by_cases h2 : c.toNat = 34
    · simp only [if_pos (show (c.toNat : Int) = 34 by omega), if_pos h2]
      have h := literal_ev s hs c (d :: r) hl
      have e : litV s.size [] (litR (d :: r)) = preV s.size ((litR (d :: r)).bind fun x => if okText x.1 then some (behindR ⟨2, x.1, [], []⟩ x.2) else none) := by
        cases litR (d :: r) with
        | none => rfl
        | some x =>
          simp only [litV, List.nil_append, Option.bind_some]
          by_cases h3 : okText x.1 = true
          · rw [if_pos h3, if_pos h3]; rfl
          rw [if_neg h3, if_neg h3]; rfl
      rw [e] at h
      exact Ev.bind h (Ev.now _)
    simp only [if_neg (show ¬ (c.toNat : Int) = 34 by omega), if_neg h2]
    by_cases h3 : c.toNat = 63
    · simp only [if_pos (show (c.toNat : Int) = 63 by omega), if_pos h3]
      have em : s.extract 1 s.size = ofL (d :: r) := by rw [ext_end, hr]
      rw [em]
      refine Ev.bind (nlen_ev (ofL (d :: r)) (by rw [ofL_size]; simp; omega)) ?_
      rw [ofL_toList]
      have hnl := nameN_le (d :: r)
      simp only [List.length_cons] at hnl
      by_cases h4 : 0 < nameN (d :: r)
      · simp only [if_pos (show ((nameN (d :: r) : Nat) : Int) > 0 by omega), wrap_succ (show nameN (d :: r) < 9223372036854775807 by omega), if_pos (show (1 : Int) ≤ ((nameN (d :: r) + 1 : Nat) : Int) by omega), if_pos (show ((nameN (d :: r) + 1 : Nat) : Int) ≤ (s.size : Int) by omega), if_pos h4, Int.toNat_natCast, preV, val5]
        rw [ext_ofL, show s.data.toList.drop 1 = d :: r from hr, Nat.add_sub_cancel, List.length_drop, List.length_cons, show s.size - (r.length + 1 - nameN (d :: r)) = nameN (d :: r) + 1 by omega]
        exact Ev.now _
      simp only [if_neg (show ¬ (((nameN (d :: r) : Nat) : Int) > 0) by omega), if_neg h4, preV]
      exact Ev.now _
    simp only [if_neg (show ¬ (c.toNat : Int) = 63 by omega), if_neg h3]
    by_cases h4 : c.toNat = 95
    · simp only [if_pos (show (c.toNat : Int) = 95 by omega), if_pos h4]
      have em : s.extract 2 s.size = ofL r := by rw [ext_end, show s.data.toList.drop 2 = r from hr1]
      rw [em]
      refine Ev.bind (nlen_ev (ofL r) (by rw [ofL_size]; omega)) ?_
      rw [ofL_toList]
      have hnl := nameN_le r
      by_cases h5 : d.toNat = 58
      · simp only [if_pos (show (d.toNat : Int) = 58 by omega), if_pos h5]
        by_cases h6 : 0 < nameN r
        · have e1 : wrap64 (((nameN r : Nat) : Int) + 2) = ((nameN r + 2 : Nat) : Int) := by unfold wrap64; omega
          simp only [if_pos (show ((nameN r : Nat) : Int) > 0 by omega), e1, if_pos (show (2 : Int) ≤ ((nameN r + 2 : Nat) : Int) by omega), if_pos (show ((nameN r + 2 : Nat) : Int) ≤ (s.size : Int) by omega), if_pos h6, Int.toNat_natCast, preV, val5]
          rw [ext_ofL, show s.data.toList.drop 2 = r from hr1, Nat.add_sub_cancel, List.length_drop, show s.size - (r.length - nameN r) = nameN r + 2 by omega]
          exact Ev.now _
        simp only [if_neg (show ¬ (((nameN r : Nat) : Int) > 0) by omega), if_neg h6, preV]
        exact Ev.now _
      simp only [if_neg (show ¬ (d.toNat : Int) = 58 by omega), if_neg h5, preV]
      exact Ev.now _
    simp only [if_neg (show ¬ (c.toNat : Int) = 95 by omega), if_neg h4, preV]
    exact Ev.now _
/-- the printed struct of a term -/
def S3 (t : Tm) : S43 := ⟨t.k, ofL t.x, ofL t.ty, ofL t.la⟩
def rrV : Option Tm → Int × ByteArray × ByteArray × ByteArray × Bool
  | some t => (t.k, ofL t.x, ofL t.ty, ofL t.la, true)
  | none => (0, ⟨#[]⟩, ⟨#[]⟩, ⟨#[]⟩, false)
theorem rread_ev (s : ByteArray) (hs : s.size ≤ 70000) : Ev (fun k => legationref01_Read.f k s) (rrV (tread s.data.toList)) := by
  unfold legationref01_Read.f
  have hsz := size_toList s
  cases hl : s.data.toList with
  | nil =>
    simp only [tl, hl, if_true]
    exact Ev.now _
  | cons c r =>
    rw [← hl]
    simp only [tl, if_neg (show ¬ s.data.toList = [] by rw [hl]; simp)]
    refine Ev.bind (rprefix_ev s hs) ?_
    unfold tread
    rw [if_neg (show ¬ s.data.toList.isEmpty = true by rw [hl]; simp)]
    rw [hl, List.length_cons] at hsz
    cases ht : tpre s.data.toList with
    | none => simp only [preV, zero5, if_true]; exact Ev.now _
    | some x =>
      obtain ⟨t, q⟩ := x
      simp only [preV, val5]
      cases q with
      | nil =>
        simp only [List.length_nil, Nat.sub_zero, if_neg (show ¬ ((s.size : Int) = 0) by omega), if_true]
        exact Ev.now _
      | cons a q =>
        have hn : ¬ (((s.size - (a :: q).length : Nat) : Int) = (s.size : Int)) := by rw [List.length_cons]; omega
        by_cases h0 : ((s.size - (a :: q).length : Nat) : Int) = 0
        · exact Ev.congr (fun k => if_pos h0) (Ev.now _)
        exact Ev.congr (fun k => (if_neg h0).trans (if_neg hn)) (Ev.now _)

/-! ### lines and cells -/
theorem piece {s : ByteArray} {i : Nat} {p r : List UInt8} (h : s.data.toList.drop i = p ++ r) : s.extract i (i + p.length) = ofL p := by
  rw [ext_ofL, h, Nat.add_sub_cancel_left, List.take_left']
  rfl
theorem drop_more {s : ByteArray} {i : Nat} {p r : List UInt8} (h : s.data.toList.drop i = p ++ r) : s.data.toList.drop (i + p.length) = r := by
  rw [← List.drop_drop, h, List.drop_left']
  rfl
theorem lines_loop (s : ByteArray) (hs : s.size ≤ 70000) : ∀ (r p : List UInt8) (i : Nat) (acc : List ByteArray), s.data.toList.drop i = p ++ r → i ≤ s.size → acc.length ≤ i →
    Ev (fun k => legationref17_Lines.l0 k s acc (i : Int) ((i + p.length : Nat) : Int)) (acc ++ (linesR p r).1.map ofL, (linesR p r).2) := by
  intro r
  induction r with
  | nil =>
    intro p i acc hd hi ha
    have hl : i + p.length = s.size := by
      have := congrArg List.length hd
      rw [List.length_drop, size_toList, List.append_nil] at this
      omega
    refine Ev.step (fun k => by rw [legationref17_Lines.l0]) ?_
    simp only [if_neg (show ¬ (((i + p.length : Nat) : Int) < (s.size : Int)) by omega), linesR, List.map_nil, List.append_nil]
    have e : ((i : Int) == (s.size : Int)) = p.isEmpty := by
      cases p with
      | nil => rw [beq_iff_eq.mpr (by simp at hl; omega)]; rfl
      | cons a p => rw [beq_eq_false_iff_ne.mpr (by simp at hl; omega)]; rfl
    rw [e]
    exact Ev.now _
  | cons c r ih =>
    intro p i acc hd hi ha
    obtain ⟨hb, hlt, hr⟩ := bt_of_drop (drop_more hd)
    refine Ev.step (fun k => by rw [legationref17_Lines.l0]) ?_
    simp only [if_pos (show (((i + p.length : Nat) : Int) < (s.size : Int)) by omega), if_pos (show (0 : Int) ≤ ((i + p.length : Nat) : Int) by omega), hb, if_pos (show (0 : Int) ≤ (i : Int) by omega), if_pos (show (i : Int) ≤ ((i + p.length : Nat) : Int) by omega), if_pos (show ((i + p.length : Nat) : Int) ≤ (s.size : Int) by omega), if_pos (show acc.length < 8796093022208 by omega), Int.toNat_natCast, wrap_succ (show i + p.length < 9223372036854775807 by omega), piece hd, linesR]
    by_cases hc : c.toNat = 10
    · simp only [if_pos (show (c.toNat : Int) = 10 by omega), if_pos hc]
      have h := ih [] (i + p.length + 1) (acc ++ [ofL p]) (by rw [hr]; rfl) (by omega) (by simp; omega)
      simp only [List.length_nil, Nat.add_zero] at h
      simpa using h
    simp only [if_neg (show ¬ (c.toNat : Int) = 10 by omega), if_neg hc]
    have h := ih (p ++ [c]) i acc (by rw [List.append_assoc]; exact hd) hi ha
    rw [List.length_append, List.length_singleton] at h
    exact h
theorem lines_rev (s : ByteArray) (hs : s.size ≤ 70000) : Ev (fun k => legationref17_Lines.f k s) ((linesR [] s.data.toList).1.map ofL, (linesR [] s.data.toList).2) :=
  lines_loop s hs s.data.toList [] 0 [] rfl (by omega) (by simp)
theorem cells_loop' (s : ByteArray) (hs : s.size ≤ 70000) : ∀ (r p : List UInt8) (i : Nat) (acc : List ByteArray), s.data.toList.drop i = p ++ r → i ≤ s.size → acc.length ≤ i →
    Ev (fun k => legationref17_cells.l0 k s acc (i : Int) ((i + p.length : Nat) : Int)) (acc ++ (cellsR p r).map ofL) := by
  intro r
  induction r with
  | nil =>
    intro p i acc hd hi ha
    have hl : i + p.length = s.size := by
      have := congrArg List.length hd
      rw [List.length_drop, size_toList, List.append_nil] at this
      omega
    refine Ev.step (fun k => by rw [legationref17_cells.l0]) ?_
    simp only [if_pos (show (((i + p.length : Nat) : Int) ≤ (s.size : Int)) by omega), if_pos (show (((i + p.length : Nat) : Int) = (s.size : Int)) by omega), if_pos (show (0 : Int) ≤ (i : Int) by omega), if_pos (show (i : Int) ≤ ((i + p.length : Nat) : Int) by omega), if_pos (show acc.length < 8796093022208 by omega), Int.toNat_natCast, wrap_succ (show i + p.length < 9223372036854775807 by omega), piece hd]
    refine Ev.step (fun k => by rw [legationref17_cells.l0]) ?_
    simp only [if_neg (show ¬ (((i + p.length + 1 : Nat) : Int) ≤ (s.size : Int)) by omega)]
    exact Ev.now _
  | cons c r ih =>
    intro p i acc hd hi ha
    obtain ⟨hb, hlt, hr⟩ := bt_of_drop (drop_more hd)
    refine Ev.step (fun k => by rw [legationref17_cells.l0]) ?_
    simp only [if_pos (show (((i + p.length : Nat) : Int) ≤ (s.size : Int)) by omega), if_neg (show ¬ (((i + p.length : Nat) : Int) = (s.size : Int)) by omega), if_pos (show (((i + p.length : Nat) : Int) < (s.size : Int)) by omega), if_pos (show (0 : Int) ≤ ((i + p.length : Nat) : Int) by omega), hb, if_pos (show (0 : Int) ≤ (i : Int) by omega), if_pos (show (i : Int) ≤ ((i + p.length : Nat) : Int) by omega), if_pos (show acc.length < 8796093022208 by omega), Int.toNat_natCast, wrap_succ (show i + p.length < 9223372036854775807 by omega), piece hd, cellsR]
    by_cases hc : c.toNat = 9
    · simp only [if_pos (show (c.toNat : Int) = 9 by omega), if_pos hc]
      have h := ih [] (i + p.length + 1) (acc ++ [ofL p]) (by rw [hr]; rfl) (by omega) (by simp; omega)
      simp only [List.length_nil, Nat.add_zero] at h
      simpa using h
    simp only [if_neg (show ¬ (c.toNat : Int) = 9 by omega), if_neg hc]
    have h := ih (p ++ [c]) i acc (by rw [List.append_assoc]; exact hd) hi ha
    rw [List.length_append, List.length_singleton] at h
    exact h
theorem cells_rev (s : ByteArray) (hs : s.size ≤ 70000) : Ev (fun k => legationref17_cells.f k s) ((cellsR [] s.data.toList).map ofL) :=
  cells_loop' s hs s.data.toList [] 0 [] rfl (by omega) (by simp)

/-! ### names -/
def qs : List (List UInt8) → Option (List (List UInt8))
  | [] => some []
  | [] :: _ => none
  | (c :: r) :: t => if c.toNat = 63 then (qs t).map (r :: ·) else none
theorem qs_some : ∀ (ls vs : List (List UInt8)), qs ls = some vs → ls = vs.map (63 :: ·)
  | [], vs, h => by obtain rfl := Option.some.inj h; rfl
  | [] :: t, vs, h => by cases h
  | (c :: r) :: t, vs, h => by
    rw [qs] at h
    by_cases hc : c.toNat = 63
    · rw [if_pos hc] at h
      obtain ⟨y, hy, rfl⟩ := Option.map_eq_some_iff.1 h
      rw [qs_some t y hy, byte_eq hc (by decide)]
      rfl
    rw [if_neg hc] at h; cases h
theorem qs_mk : ∀ vs : List (List UInt8), qs (vs.map (63 :: ·)) = some vs
  | [] => rfl
  | v :: vs => by rw [List.map_cons, qs, if_pos (by decide), qs_mk vs]; rfl
def namesR (l : List UInt8) : Option (List (List UInt8)) := if l = [] then some [] else qs (cellsR [] l)
def nmV (acc : List ByteArray) : Option (List (List UInt8)) → List ByteArray × Bool
  | some m => (acc ++ m.map ofL, true)
  | none => ([], false)
theorem names_rloop : ∀ (r : List (List UInt8)) (acc : List ByteArray), acc.length + r.length ≤ 70001 →
    Ev (fun k => legationref17_names.l0 k (acc ++ r.map ofL) (acc.length : Int)) (nmV acc (qs r)) := by
  intro r
  induction r with
  | nil =>
    intro acc ha
    refine Ev.step (fun k => by rw [legationref17_names.l0]) ?_
    simp only [List.map_nil, List.append_nil, if_neg (show ¬ ((acc.length : Int) < (acc.length : Int)) by omega)]
    rw [show nmV acc (qs []) = (acc, true) by simp [qs, nmV]]
    exact Ev.now _
  | cons x r ih =>
    intro acc ha
    simp only [List.length_cons] at ha
    refine Ev.step (fun k => by rw [legationref17_names.l0]) ?_
    have hlen : (acc ++ List.map ofL (x :: r)).length = acc.length + (r.length + 1) := by simp
    have hg : rdOf ByteArray.empty (acc ++ List.map ofL (x :: r)) (acc.length : Int) = ofL x := by
      unfold rdOf
      rw [Int.toNat_natCast, List.getD_eq_getElem?_getD, List.getElem?_append_right (Nat.le_refl _), Nat.sub_self]
      rfl
    rw [hlen, hg]
    simp only [if_pos (show ((acc.length : Int) < ((acc.length + (r.length + 1) : Nat) : Int)) by omega), if_pos (show (0 : Int) ≤ (acc.length : Int) by omega), ofL_size]
    cases x with
    | nil =>
      simp only [List.length_nil, if_pos (show (((0 : Nat) : Int) = 0) by decide)]
      exact Ev.now _
    | cons c y =>
      obtain ⟨hb, _, hr⟩ := bt_of_drop (s := ofL (c :: y)) (i := 0) (c := c) (r := y) rfl
      simp only [List.length_cons, if_neg (show ¬ (((y.length + 1 : Nat) : Int) = 0) by omega), if_pos (show 0 < ((y.length + 1 : Nat) : Int) by omega), if_pos (show 1 ≤ ((y.length + 1 : Nat) : Int) by omega), show bt (ofL (c :: y)) 0 = (c.toNat : Int) from hb, Int.toNat_natCast, wrap_succ (show acc.length < 9223372036854775807 by omega), qs]
      by_cases hc : c.toNat = 63
      · simp only [if_pos (show (c.toNat : Int) = 63 by omega), if_pos hc]
        have e : (acc ++ List.map ofL ((c :: y) :: r)).set acc.length ((ofL (c :: y)).extract 1 (y.length + 1)) = acc ++ [ofL y] ++ r.map ofL := by
          have e2 : (ofL (c :: y)).extract 1 (y.length + 1) = ofL y := by
            have := ext_end (ofL (c :: y)) 1
            rw [ofL_size] at this
            exact this
          rw [e2, List.set_append_right _ _ (Nat.le_refl _), Nat.sub_self]
          simp
        rw [e]
        have h := ih (acc ++ [ofL y]) (by simp; omega)
        rw [List.length_append, List.length_singleton] at h
        have e3 : nmV (acc ++ [ofL y]) (qs r) = nmV acc ((qs r).map (y :: ·)) := by
          cases qs r with
          | none => rfl
          | some m => simp [nmV]
        rw [e3] at h
        exact h
      simp only [if_neg (show ¬ (c.toNat : Int) = 63 by omega), if_neg hc]
      exact Ev.now _
theorem names_rev (s : ByteArray) (hs : s.size ≤ 70000) : Ev (fun k => legationref17_names.f k s) (nmV [] (namesR s.data.toList)) := by
  unfold legationref17_names.f namesR
  by_cases h : s.data.toList = []
  · simp only [tl, if_pos h]
    exact Ev.now _
  simp only [tl, if_neg h]
  refine Ev.bind (cells_rev s hs) ?_
  have hf := cellsR_few s.data.toList []
  rw [size_toList] at hf
  exact names_rloop (cellsR [] s.data.toList) [] (by simp; omega)

/-! ### rows -/
def trs : List (List UInt8) → Option (List Tm)
  | [] => some []
  | c :: r => (tread c).bind fun t => (trs r).map (t :: ·)
theorem trs_some : ∀ (ls : List (List UInt8)) (ts : List Tm), trs ls = some ts → ls = ts.map ttext
  | [], ts, h => by obtain rfl := Option.some.inj h; rfl
  | c :: r, ts, h => by
    obtain ⟨t, ht, h⟩ := Option.bind_eq_some_iff.1 h
    obtain ⟨y, hy, rfl⟩ := Option.map_eq_some_iff.1 h
    rw [List.map_cons, ← trs_some r y hy, (tread_some ht).1]
theorem trs_mk : ∀ ts : List Tm, (∀ t ∈ ts, okTm t = true) → trs (ts.map ttext) = some ts
  | [], _ => rfl
  | t :: ts, h => by
    rw [List.map_cons, trs, tread_text (h t List.mem_cons_self), trs_mk ts (fun x hx => h x (List.mem_cons_of_mem _ hx))]
    rfl
def rowR (n : Nat) (l : List UInt8) : Option (List Tm) := if n = 0 then (if l = [] then some [] else none) else (trs (cellsR [] l)).bind fun ts => if ts.length = n then some ts else none
def okV (n : Nat) (o : Option (List Tm)) (v : List S43 × Bool) : Prop := match o with | some ts => v = (ts.map S3, true) | none => v.2 = false
theorem rd_map (L : List (List UInt8)) (i : Nat) : rdOf ByteArray.empty (L.map ofL) (i : Int) = ofL (L.getD i []) := by
  unfold rdOf
  rw [Int.toNat_natCast, List.getD_eq_getElem?_getD, List.getD_eq_getElem?_getD, List.getElem?_map]
  cases L[i]? <;> rfl
theorem row_rloop (vars : List ByteArray) (P : List (List UInt8)) (hP : ∀ x ∈ P, x.length ≤ 70000) (hPl : P.length ≤ 70001) : ∀ (r : List (List UInt8)) (i : Nat) (acc : List S43), P.drop i = r → acc.length ≤ i →
    Ev (fun k => legationref17_row.l0 k vars acc (P.map ofL) (i : Int)) (match trs r with | some ts => (acc ++ ts.map S3, (((acc ++ ts.map S3).length : Int) == (vars.length : Int))) | none => ([], false)) := by
  intro r
  induction r with
  | nil =>
    intro i acc hd ha
    have := len_of_drop hd
    refine Ev.step (fun k => by rw [legationref17_row.l0]) ?_
    simp only [List.length_map, if_neg (show ¬ ((i : Int) < (P.length : Int)) by omega), trs, List.map_nil, List.append_nil]
    exact Ev.now _
  | cons c r ih =>
    intro i acc hd ha
    obtain ⟨hg, hi, hr, _⟩ := get_of_drop hd []
    rw [Int.toNat_natCast] at hg
    refine Ev.step (fun k => by rw [legationref17_row.l0]) ?_
    simp only [List.length_map, if_pos (show ((i : Int) < (P.length : Int)) by omega), if_pos (show (0 : Int) ≤ (i : Int) by omega), rd_map, hg, wrap_succ (show i < 9223372036854775807 by omega), if_pos (show acc.length < 2513169434916 by omega)]
    have hc : c.length ≤ 70000 := hP c (by rw [← List.take_append_drop i P, hd]; simp)
    refine Ev.bind (rread_ev (ofL c) (by rw [ofL_size]; exact hc)) ?_
    rw [ofL_toList, trs]
    cases tread c with
    | none => simp only [rrV, Bool.false_eq_true, if_false, Option.bind_none]; exact Ev.now _
    | some t =>
      simp only [rrV, if_true, Option.bind_some]
      have h := ih (i + 1) (acc ++ [S3 t]) hr (by simp; omega)
      cases ht : trs r with
      | none => rw [ht] at h; exact h
      | some ts =>
        rw [ht] at h
        simp only [Option.map_some, List.map_cons]
        have e : acc ++ [S3 t] ++ ts.map S3 = acc ++ S3 t :: ts.map S3 := by simp
        simp only [e] at h
        exact h
theorem row_rev (s : ByteArray) (hs : s.size ≤ 70000) (vars : List ByteArray) : ∃ v, Ev (fun k => legationref17_row.f k s vars) v ∧ okV 0 (rowR vars.length s.data.toList) v := by
  unfold legationref17_row.f rowR
  by_cases h0 : vars.length = 0
  · simp only [Option.bind_some, if_pos (show (vars.length : Int) = 0 by omega), if_pos h0, tl]
    refine ⟨_, Ev.now _, ?_⟩
    by_cases h : s.data.toList = []
    · rw [if_pos h, h]; rfl
    rw [if_neg h]; exact beq_eq_false_iff_ne.mpr h
  simp only [Option.bind_some, if_neg (show ¬ (vars.length : Int) = 0 by omega), if_neg h0]
  have hf := cellsR_few s.data.toList []
  rw [size_toList] at hf
  have h := row_rloop vars (cellsR [] s.data.toList) (fun x hx => by have := cellsR_le _ _ _ hx; rw [size_toList] at this; simp at this; omega) (by omega) _ 0 [] rfl (by simp)
  refine ⟨_, Ev.bind (cells_rev s hs) h, ?_⟩
  rw [List.drop_zero]
  cases trs (cellsR [] s.data.toList) with
  | none => exact rfl
  | some ts =>
    simp only [Option.bind_some, List.nil_append]
    by_cases hn : ts.length = vars.length
    · rw [if_pos hn]
      show _ = _
      rw [List.length_map, hn, beq_self_eq_true]
    rw [if_neg hn]
    show _ = _
    rw [List.length_map]
    exact beq_eq_false_iff_ne.mpr (by omega)
def rowsR (n : Nat) : List (List UInt8) → Option (List (List Tm))
  | [] => some []
  | l :: r => (rowR n l).bind fun t => (rowsR n r).map (t :: ·)
def tbV (vars : List ByteArray) (acc : List (List S43)) : Option (List (List Tm)) → List ByteArray × List (List S43) × Bool
  | some m => (vars, acc ++ m.map (·.map S3), true)
  | none => ([], [], false)
theorem table_rloop (vars : List ByteArray) (P : List (List UInt8)) (hP : ∀ x ∈ P, x.length ≤ 70000) (hPl : P.length ≤ 70001) : ∀ (r : List (List UInt8)) (i : Nat) (acc : List (List S43)), P.drop i = r → acc.length ≤ i →
    Ev (fun k => legationref17_table.l0 k (P.map ofL) vars (i : Int) vars acc) (tbV vars acc (rowsR vars.length r)) := by
  intro r
  induction r with
  | nil =>
    intro i acc hd ha
    have := len_of_drop hd
    refine Ev.step (fun k => by rw [legationref17_table.l0]) ?_
    simp only [List.length_map, if_neg (show ¬ ((i : Int) < (P.length : Int)) by omega)]
    rw [show tbV vars acc (rowsR vars.length []) = (vars, acc, true) by simp [rowsR, tbV]]
    exact Ev.now _
  | cons c r ih =>
    intro i acc hd ha
    obtain ⟨hg, hi, hr, _⟩ := get_of_drop hd []
    rw [Int.toNat_natCast] at hg
    have hc : c.length ≤ 70000 := hP c (by rw [← List.take_append_drop i P, hd]; simp)
    obtain ⟨v, hv, hk⟩ := row_rev (ofL c) (by rw [ofL_size]; exact hc) vars
    rw [ofL_toList] at hk
    refine Ev.step (fun k => by rw [legationref17_table.l0]) ?_
    simp only [List.length_map, if_pos (show ((i : Int) < (P.length : Int)) by omega), if_pos (show (0 : Int) ≤ (i : Int) by omega), rd_map, hg, wrap_succ (show i < 9223372036854775807 by omega), if_pos (show acc.length < 5864062014805 by omega)]
    refine Ev.bind hv ?_
    rw [rowsR]
    cases hx : rowR vars.length c with
    | none =>
      rw [hx] at hk
      simp only [show v.2 = false from hk, Bool.false_eq_true, if_false, Option.bind_none]
      exact Ev.now _
    | some ts =>
      rw [hx] at hk
      obtain rfl : v = (ts.map S3, true) := hk
      simp only [if_true, Option.bind_some]
      have h := ih (i + 1) (acc ++ [ts.map S3]) hr (by simp; omega)
      have e : tbV vars (acc ++ [ts.map S3]) (rowsR vars.length r) = tbV vars acc ((rowsR vars.length r).map (ts :: ·)) := by
        cases rowsR vars.length r with
        | none => rfl
        | some m => simp [tbV]
      rw [e] at h
      exact h
def tableR : List (List UInt8) → Option (List (List UInt8) × List (List Tm))
  | [] => none
  | l :: r => (namesR l).bind fun ns => (rowsR ns.length r).map fun t => (ns, t)
def taV : Option (List (List UInt8) × List (List Tm)) → List ByteArray × List (List S43) × Bool
  | some x => (x.1.map ofL, x.2.map (·.map S3), true)
  | none => ([], [], false)
theorem table_rev (L : List (List UInt8)) (hL : ∀ x ∈ L, x.length ≤ 70000) (hLl : L.length ≤ 70001) : Ev (fun k => legationref17_table.f k (L.map ofL)) (taV (tableR L)) := by
  unfold legationref17_table.f
  cases L with
  | nil => simp only [List.map_nil, List.length_nil, if_pos (show (((0 : Nat) : Int) = 0) by decide)]; exact Ev.now _
  | cons l r =>
    simp only [List.length_map, List.length_cons, if_neg (show ¬ (((r.length + 1 : Nat) : Int) = 0) by omega), if_pos (show 0 < ((r.length + 1 : Nat) : Int) by omega)]
    rw [show rdOf ByteArray.empty (List.map ofL (l :: r)) 0 = ofL l from rfl]
    refine Ev.bind (names_rev (ofL l) (by rw [ofL_size]; exact hL l List.mem_cons_self)) ?_
    rw [ofL_toList, tableR]
    cases namesR l with
    | none => simp only [nmV, Bool.false_eq_true, if_false, Option.bind_none]; exact Ev.now _
    | some ns =>
      simp only [nmV, if_true, Option.bind_some, List.nil_append]
      have h := table_rloop (ns.map ofL) (l :: r) hL hLl r 1 [] rfl (by simp)
      rw [List.length_map] at h
      have e : tbV (ns.map ofL) [] (rowsR ns.length r) = taV ((rowsR ns.length r).map fun t => (ns, t)) := by
        cases rowsR ns.length r with
        | none => rfl
        | some m => simp [tbV, taV]
      rw [e] at h
      exact h

/-! ### numbers -/
theorem digits_key (n : Nat) (h : n < 4096) : (legationref02_Digits.f 8 (n : Int) 1).map (·.data.toList) = some (dd n) := by
  have key : ∀ a b : Fin 64, ((legationref02_Digits.f 8 ((64 * a.val + b.val : Nat) : Int) 1).map (·.data.toList)) = some (dd (64 * a.val + b.val)) := by decide +kernel
  have := key ⟨n / 64, by omega⟩ ⟨n % 64, by omega⟩
  simp only at this
  rwa [show 64 * (n / 64) + n % 64 = n by omega] at this
theorem digits_ev (n : Nat) (h : n < 4096) : Ev (fun k => legationref02_Digits.f k (n : Int) 1) (ofL (dd n)) := by
  obtain ⟨s, hs, he⟩ := Option.map_eq_some_iff.1 (digits_key n h)
  refine Ev.of (k := 8) (fun k => legationref02_Digits.mono _ _ k) ?_
  rw [hs, ← he, ofL_data]
theorem dd_inj {a b : Nat} (ha : a < 4096) (hb : b < 4096) (h : dd a = dd b) : a = b := by
  have h1 := atoi_dd a ha
  rw [h, atoi_dd b hb] at h1
  injection h1 with h1
  omega
theorem number_loop (s : ByteArray) : ∀ (m n : Nat), n + m = 4096 → (∀ j < n, s.data.toList ≠ dd j) → ∃ v, Ev (fun k => legationref17_number.l0 k s 4096 (n : Int)) v ∧ ((v = -1 ∧ ∀ j < 4096, s.data.toList ≠ dd j) ∨ ∃ j < 4096, v = ((j : Nat) : Int) ∧ s.data.toList = dd j) := by
  intro m
  induction m with
  | zero =>
    intro n hn h
    refine ⟨-1, Ev.step (fun k => by rw [legationref17_number.l0]) ?_, .inl ⟨rfl, fun j hj => h j (by omega)⟩⟩
    simp only [if_neg (show ¬ ((n : Int) < 4096) by omega)]
    exact Ev.now _
  | succ m ih =>
    intro n hn h
    by_cases e : s.data.toList = dd n
    · refine ⟨(n : Int), Ev.step (fun k => by rw [legationref17_number.l0]) ?_, .inr ⟨n, by omega, rfl, e⟩⟩
      simp only [if_pos (show ((n : Int) < 4096) by omega)]
      refine Ev.bind (digits_ev n (by omega)) ?_
      simp only [tl, ofL_toList, if_pos e.symm]
      exact Ev.now _
    obtain ⟨v, hv, hq⟩ := ih (n + 1) (by omega) (fun j hj => by
      rcases Nat.lt_or_ge j n with h1 | h1
      · exact h j h1
      obtain rfl : j = n := by omega
      exact e)
    refine ⟨v, Ev.step (fun k => by rw [legationref17_number.l0]) ?_, hq⟩
    simp only [if_pos (show ((n : Int) < 4096) by omega)]
    refine Ev.bind (digits_ev n (by omega)) ?_
    simp only [tl, ofL_toList, if_neg (fun e' => e (Eq.symm e')), wrap_succ (show n < 9223372036854775807 by omega)]
    exact hv
theorem number_ev (s : ByteArray) : ∃ v, Ev (fun k => legationref17_number.f k s 4096) v ∧ ((v = -1 ∧ ∀ j < 4096, s.data.toList ≠ dd j) ∨ ∃ j < 4096, v = ((j : Nat) : Int) ∧ s.data.toList = dd j) :=
  number_loop s 4096 0 rfl (fun j hj => absurd hj (by omega))
end Go.Proofs.YtgabadlneeffkaaGreatDoor.G

/- The law ResultGets, on what the printed functions compute. -/
namespace Go.Proofs.YtgabadlneeffkaaGreatDoor.G
open Go.RowKit Go.Lib Go.Proofs.YtgabadlneeffkaaGreatDoor Go.Proofs.YtgabadlneeffkaaGreatDoorW.PrintWords Go.Proofs.YtgabadlneeffkaaGreatDoorW.PrintLast
set_option linter.unusedVariables false
set_option linter.unusedSimpArgs false

/-! ### tables: what is read was written, and what was written is read -/
theorem namesR_some {l : List UInt8} {ns : List (List UInt8)} (h : namesR l = some ns) : l = joinT (ns.map (63 :: ·)) := by
  unfold namesR at h
  by_cases hl : l = []
  · rw [if_pos hl] at h
    obtain rfl := Option.some.inj h
    rw [hl]
    rfl
  rw [if_neg hl] at h
  rw [← qs_some _ _ h, cellsR_join]
  rfl
theorem rowR_some {n : Nat} {l : List UInt8} {ts : List Tm} (h : rowR n l = some ts) : l = joinT (ts.map ttext) := by
  unfold rowR at h
  by_cases h0 : n = 0
  · rw [if_pos h0] at h
    by_cases hl : l = []
    · rw [if_pos hl] at h
      obtain rfl := Option.some.inj h
      rw [hl]
      rfl
    rw [if_neg hl] at h; cases h
  rw [if_neg h0] at h
  obtain ⟨t, ht, h⟩ := Option.bind_eq_some_iff.1 h
  by_cases hn : t.length = n
  · rw [if_pos hn] at h
    obtain rfl := Option.some.inj h
    rw [← trs_some _ _ ht, cellsR_join]
    rfl
  rw [if_neg hn] at h; cases h
theorem rowsR_some {n : Nat} : ∀ {ls : List (List UInt8)} {tss : List (List Tm)}, rowsR n ls = some tss → ls = tss.map fun ts => joinT (ts.map ttext)
  | [], tss, h => by obtain rfl := Option.some.inj h; rfl
  | l :: r, tss, h => by
    obtain ⟨t, ht, h⟩ := Option.bind_eq_some_iff.1 h
    obtain ⟨y, hy, rfl⟩ := Option.map_eq_some_iff.1 h
    rw [List.map_cons, ← rowsR_some hy, ← rowR_some ht]
theorem rowsR_len {n : Nat} : ∀ {ls : List (List UInt8)} {tss : List (List Tm)}, rowsR n ls = some tss → tss.length = ls.length
  | [], tss, h => by obtain rfl := Option.some.inj h; rfl
  | l :: r, tss, h => by
    obtain ⟨t, ht, h⟩ := Option.bind_eq_some_iff.1 h
    obtain ⟨y, hy, rfl⟩ := Option.map_eq_some_iff.1 h
    simp [rowsR_len hy]
theorem namesR_mk (ns : List (List UInt8)) (h : ∀ x ∈ ns, okName x = true) : namesR (joinT (ns.map (63 :: ·))) = some ns := by
  unfold namesR
  cases ns with
  | nil => rfl
  | cons a r =>
    have hne : joinT ((a :: r).map (63 :: ·)) ≠ [] := by
      cases r with
      | nil => simp [joinT]
      | cons b r => simp [joinT]
    rw [if_neg hne, cellsR_mk _ (by simp) ?_, qs_mk]
    intro x hx
    obtain ⟨y, hy, rfl⟩ := List.mem_map.1 hx
    exact (clean_cons (by decide) (by decide) (clean_name (h y hy))).1
theorem rowR_mk (n : Nat) (row : List S43) (h : rowOK n row = true) : rowR n (rowL row) = some (row.map T) := by
  unfold rowOK at h
  rw [Bool.and_eq_true, beq_iff_eq] at h
  obtain ⟨h1, h2⟩ := h
  have e : rowL row = joinT ((row.map T).map ttext) := by unfold rowL; rw [List.map_map]; rfl
  have hok : ∀ t ∈ row.map T, okTm t = true := by
    intro t ht
    obtain ⟨s, hs, rfl⟩ := List.mem_map.1 ht
    exact (cellOK_tm (List.all_eq_true.1 h2 s hs)).1
  unfold rowR
  by_cases h0 : n = 0
  · rw [if_pos h0]
    obtain rfl : row = [] := List.length_eq_zero_iff.1 (by omega)
    rfl
  rw [if_neg h0, e, cellsR_mk _ (by rw [List.map_map]; intro e0; have := congrArg List.length e0; simp only [List.length_map, List.length_nil] at this; omega) ?_, trs_mk _ hok]
  · simp only [Option.bind_some, List.length_map]
    rw [if_pos h1]
  intro x hx
  obtain ⟨t, ht, rfl⟩ := List.mem_map.1 hx
  exact (clean_text (hok t ht)).1
theorem rowsR_mk (n : Nat) : ∀ rows : List (List S43), rows.all (rowOK n) = true → rowsR n (rows.map rowL) = some (rows.map (·.map T))
  | [], _ => rfl
  | row :: rows, h => by
    rw [List.all_cons, Bool.and_eq_true] at h
    rw [List.map_cons, rowsR, rowR_mk n row h.1, rowsR_mk n rows h.2]
    rfl
theorem S3_T (t : S43) : S3 (T t) = t := by
  obtain ⟨a, b, c, d⟩ := t
  simp only [S3, T, TT, ofL_data]
theorem rows_back (rows : List (List S43)) : (rows.map (·.map T)).map (·.map S3) = rows := by
  rw [List.map_map]
  conv => rhs; rw [← List.map_id rows]
  refine List.map_congr_left fun row _ => ?_
  show (row.map T).map S3 = row
  rw [List.map_map]
  conv => rhs; rw [← List.map_id row]
  exact List.map_congr_left fun t _ => S3_T t
theorem vars_back (vars : List ByteArray) : (B vars).map ofL = vars := by
  unfold B
  rw [List.map_map]
  conv => rhs; rw [← List.map_id vars]
  exact List.map_congr_left fun t _ => ofL_data t

/-! ### what stands behind the number -/
abbrev MV := Int × List ByteArray × List (List S43) × Bool × Int × Bool
theorem dd_one (c : UInt8) (h1 : 49 ≤ c.toNat) (h2 : c.toNat ≤ 57) : dd (c.toNat - 48) = [c] := by
  have key : ∀ n : Fin 9, dd (n.val + 1) = [UInt8.ofNat (49 + n.val)] := by decide +kernel
  have h := key ⟨c.toNat - 49, by omega⟩
  simp only at h
  rw [show c.toNat - 48 = c.toNat - 49 + 1 by omega, h, show 49 + (c.toNat - 49) = c.toNat by omega]
  rw [UInt8.ofNat_toNat]
theorem mid_rev (L : List (List UInt8)) (hL : ∀ x ∈ L, x.length ≤ 70000) (hLl : L.length ≤ 70001) (h2 : 2 ≤ L.length) : ∃ m : MV, Ev (fun k => refMid k (L.map ofL)) m ∧ m.2.2.1.length ≤ 70001 ∧
    (m.2.2.2.2.2 = true → ∀ j : Nat, L.getD 0 [] = dd j → L = linesOf j m.1 m.2.1 m.2.2.1 m.2.2.2.1 m.2.2.2.2.1.toNat) ∧
    (∀ (a0 a1 : Int) (vars : List ByteArray) (rows : List (List S43)) (tr : Bool) (er : Int), chk a0 a1 vars rows tr er = 0 → L = linesOf a0.toNat a1 vars rows tr er.toNat → m = (a1, vars, rows, tr, er, true)) := by
  unfold refMid
  match L, h2 with
  | l0 :: l1 :: r, _ =>
  have e1 : rdOf ByteArray.empty ((l0 :: l1 :: r).map ofL) 1 = ofL l1 := rfl
  have e2 : ((l0 :: l1 :: r).map ofL).drop 2 = r.map ofL := rfl
  simp only [e1, e2, tl, ofL_toList, List.length_map]
  by_cases hr : l1 = [114, 111, 119, 115]
  · simp only [if_pos hr]
    have ht := table_rev r (fun x hx => hL x (by simp [hx])) (by simp at hLl; omega)
    refine ⟨_, Ev.bind ht (Ev.now _), ?_, ?_, ?_⟩
    · cases htr : tableR r with
      | none => simp [taV]
      | some x =>
        unfold tableR at htr
        cases r with
        | nil => cases htr
        | cons l r =>
          obtain ⟨ns, hns, htr⟩ := Option.bind_eq_some_iff.1 htr
          obtain ⟨y, hy, rfl⟩ := Option.map_eq_some_iff.1 htr
          have := rowsR_len hy
          simp only [taV, List.length_map]
          simp at hLl
          omega
    · intro hok j hj
      cases htr : tableR r with
      | none => rw [htr] at hok; cases hok
      | some x =>
        unfold tableR at htr
        cases r with
        | nil => cases htr
        | cons l r =>
          obtain ⟨ns, hns, htr⟩ := Option.bind_eq_some_iff.1 htr
          obtain ⟨y, hy, rfl⟩ := Option.map_eq_some_iff.1 htr
          simp only [taV]
          unfold linesOf
          rw [if_neg (by decide), if_neg (by decide), ← show l0 = dd j from hj, hr, B_ofL, ← namesR_some hns, rowsR_some hy, List.map_map]
          refine congrArg (fun z => l0 :: [114, 111, 119, 115] :: l :: z) ?_
          refine List.map_congr_left fun ts _ => ?_
          show _ = joinT ((ts.map S3).map fun t => ttext (T t))
          rw [List.map_map]
          rfl
    intro a0 a1 vars rows tr er hc hl
    obtain ⟨p1, p2, hk⟩ := chk_zero hc
    rcases hk with ⟨k1, k2, k3, k4, k5⟩ | ⟨k1, k2, k3, k4⟩ | ⟨k1, k2, k3, k4, k5, k6⟩
    · unfold linesOf at hl
      rw [if_neg (by omega), if_neg (by omega)] at hl
      injection hl with _ hl
      injection hl with _ hl
      obtain ⟨v1, v2, v3⟩ := rightR_all k4
      rw [hl, tableR, namesR_mk _ v2]
      simp only [Option.bind_some]
      rw [show (B vars).length = vars.length from B_len vars, rowsR_mk _ _ v3]
      simp only [Option.map_some, taV]
      rw [vars_back, rows_back, k1, k2, k3]
    · unfold linesOf at hl
      rw [if_pos k1] at hl
      injection hl with _ hl
      injection hl with hl _
      rw [hr] at hl
      cases tr <;> cases hl
    unfold linesOf at hl
    rw [if_neg (by omega), if_pos k1] at hl
    injection hl with _ hl
    injection hl with hl _
    rw [hr] at hl
    cases hl
  simp only [if_neg hr]
  by_cases ht : l1 = [116, 114, 117, 101] ∨ l1 = [102, 97, 108, 115, 101]
  · simp only [if_pos ht]
    refine ⟨_, Ev.now _, by simp, ?_, ?_⟩
    · intro hok j hj
      simp only [decide_eq_true_eq, List.length_cons] at hok
      obtain rfl : r = [] := List.length_eq_zero_iff.1 (by omega)
      unfold linesOf
      rw [if_pos rfl, ← show l0 = dd j from hj]
      rcases ht with rfl | rfl <;> rfl
    intro a0 a1 vars rows tr er hc hl
    obtain ⟨p1, p2, hk⟩ := chk_zero hc
    unfold linesOf at hl
    rcases hk with ⟨k1, k2, k3, k4, k5⟩ | ⟨k1, k2, k3, k4⟩ | ⟨k1, k2, k3, k4, k5, k6⟩
    · rw [if_neg (by omega), if_neg (by omega)] at hl
      injection hl with _ hl
      injection hl with hl _
      exact absurd hl hr
    · rw [if_pos k1] at hl
      injection hl with _ hl
      injection hl with hl hl2
      subst hl2 k1 k2 k3 k4
      rw [hl]
      cases tr <;> rfl
    rw [if_neg (by omega), if_pos k1] at hl
    injection hl with _ hl
    injection hl with hl _
    rcases ht with rfl | rfl <;> cases hl
  simp only [if_neg ht]
  by_cases hd : (l0 :: l1 :: r).length = 2 ∧ (ofL l1).size = 7 ∧ ((ofL l1).extract 0 6).data.toList = [101, 114, 114, 111, 114, 32] ∧ 49 ≤ bt (ofL l1) 6 ∧ bt (ofL l1) 6 ≤ 57
  · simp only [if_pos hd]
    refine ⟨_, Ev.now _, by simp, ?_, ?_⟩
    · intro _ j hj
      obtain ⟨d1, d2, d3, d4, d5⟩ := hd
      obtain rfl : r = [] := List.length_eq_zero_iff.1 (by simp only [List.length_cons] at d1; omega)
      rw [ofL_size] at d2
      rw [ext_toList, ofL_toList, List.drop_zero] at d3
      have h7 := List.take_append_drop 6 l1
      have hl7 : (l1.drop 6).length = 1 := by rw [List.length_drop]; omega
      match hq : l1.drop 6, hl7 with
      | [c], _ =>
        obtain ⟨hb, _, _⟩ := bt_of_drop (s := ofL l1) (i := 6) hq
        rw [show ((6 : Nat) : Int) = 6 from rfl] at hb
        rw [hb] at d4 d5 ⊢
        show [l0, l1] = linesOf j 3 [] [] false ((c.toNat : Int) - 48).toNat
        unfold linesOf
        rw [if_neg (show ¬ ((3 : Int) = 2) by decide), if_pos rfl, ← show l0 = dd j from hj, show ((c.toNat : Int) - 48).toNat = c.toNat - 48 by omega, dd_one c (by omega) (by omega)]
        rw [show l1.take 6 = _ from d3, hq] at h7
        rw [h7]
    intro a0 a1 vars rows tr er hc hl
    obtain ⟨p1, p2, hk⟩ := chk_zero hc
    unfold linesOf at hl
    rcases hk with ⟨k1, k2, k3, k4, k5⟩ | ⟨k1, k2, k3, k4⟩ | ⟨k1, k2, k3, k4, k5, k6⟩
    · rw [if_neg (by omega), if_neg (by omega)] at hl
      injection hl with _ hl
      injection hl with hl _
      exact absurd hl hr
    · rw [if_pos k1] at hl
      injection hl with _ hl
      injection hl with hl _
      exact absurd (by cases tr <;> simp at hl <;> simp [hl]) ht
    rw [if_neg (by omega), if_pos k1] at hl
    injection hl with _ hl
    injection hl with hl _
    subst k1 k2 k3 k4
    have key : ∀ n : Fin 9, bt (ofL ([101, 114, 114, 111, 114, 32] ++ dd (n.val + 1))) 6 = ((n.val + 49 : Nat) : Int) := by decide +kernel
    have := key ⟨er.toNat - 1, by omega⟩
    simp only at this
    rw [show er.toNat - 1 + 1 = er.toNat by omega, ← hl] at this
    rw [this, show ((er.toNat - 1 + 49 : Nat) : Int) - 48 = er by omega]
  simp only [if_neg hd]
  refine ⟨_, Ev.now _, by simp, fun h => (by cases h), ?_⟩
  intro a0 a1 vars rows tr er hc hl
  obtain ⟨p1, p2, hk⟩ := chk_zero hc
  unfold linesOf at hl
  rcases hk with ⟨k1, k2, k3, k4, k5⟩ | ⟨k1, k2, k3, k4⟩ | ⟨k1, k2, k3, k4, k5, k6⟩
  · rw [if_neg (by omega), if_neg (by omega)] at hl
    injection hl with _ hl
    injection hl with hl _
    exact absurd hl hr
  · rw [if_pos k1] at hl
    injection hl with _ hl
    injection hl with hl _
    exact absurd (by cases tr <;> simp at hl <;> simp [hl]) ht
  rw [if_neg (by omega), if_pos k1] at hl
  injection hl with _ hl
  injection hl with hl hl2
  exfalso
  apply hd
  subst hl2
  have key : ∀ n : Fin 9, (ofL ([101, 114, 114, 111, 114, 32] ++ dd (n.val + 1))).size = 7 ∧ ((ofL ([101, 114, 114, 111, 114, 32] ++ dd (n.val + 1))).extract 0 6).data.toList = [101, 114, 114, 111, 114, 32] ∧ 49 ≤ bt (ofL ([101, 114, 114, 111, 114, 32] ++ dd (n.val + 1))) 6 ∧ bt (ofL ([101, 114, 114, 111, 114, 32] ++ dd (n.val + 1))) 6 ≤ 57 := by decide +kernel
  have := key ⟨er.toNat - 1, by omega⟩
  simp only at this
  rw [show er.toNat - 1 + 1 = er.toNat by omega, ← hl] at this
  exact ⟨rfl, this⟩
theorem Ev.one {α : Type} {g : Nat → Option α} {a b : α} (h : Ev g a) (k : Ev g b) : a = b := by
  obtain ⟨K, h⟩ := h
  obtain ⟨M, k⟩ := k
  have := (h (max K M) (Nat.le_max_left _ _)).symm.trans (k (max K M) (Nat.le_max_right _ _))
  exact Option.some.inj this
def err2 : GV := (0, 0, [], [], false, 0, 2)
theorem rget_ev (b : ByteArray) (hz : b.size ≤ 65536) : ∃ v : GV, Ev (fun k => legationref17_Get.f k b) v ∧
    (v = err2 ∨ (v.2.2.2.2.2.2 = 0 ∧ chk v.1 v.2.1 v.2.2.1 v.2.2.2.1 v.2.2.2.2.1 v.2.2.2.2.2.1 = 0 ∧ bytesL v.1.toNat v.2.1 v.2.2.1 v.2.2.2.1 v.2.2.2.2.1 v.2.2.2.2.2.1.toNat = b.data.toList)) ∧
    (∀ (a0 a1 : Int) (vars : List ByteArray) (rows : List (List S43)) (tr : Bool) (er : Int), chk a0 a1 vars rows tr er = 0 → b.data.toList = bytesL a0.toNat a1 vars rows tr er.toNat → v = (a0, a1, vars, rows, tr, er, 0)) := by
  unfold legationref17_Get.f
  simp only [if_neg (show ¬ ((b.size : Int) > 65536) by omega)]
  have hlines := lines_rev b (by omega)
  -- what a right reply's bytes are parted into
  have right : ∀ (a0 a1 : Int) (vars : List ByteArray) (rows : List (List S43)) (tr : Bool) (er : Int), chk a0 a1 vars rows tr er = 0 → b.data.toList = bytesL a0.toNat a1 vars rows tr er.toNat → linesR [] b.data.toList = (linesOf a0.toNat a1 vars rows tr er.toNat, true) := by
    intro a0 a1 vars rows tr er hc hb
    rw [hb]
    exact linesR_unl _ (lines_clean hc)
  have hle := linesR_le b.data.toList []
  have hfew := linesR_few b.data.toList []
  have hsome := linesR_some b.data.toList []
  rw [size_toList] at hfew
  simp only [size_toList, List.length_nil, Nat.zero_add] at hle
  generalize linesR [] b.data.toList = x at *
  obtain ⟨L, ok⟩ := x
  have two : ∀ (a0 a1 : Int) (vars : List ByteArray) (rows : List (List S43)) (tr : Bool) (er : Nat), 2 ≤ (linesOf a0.toNat a1 vars rows tr er).length := by
    intro a0 a1 vars rows tr er
    unfold linesOf
    split
    · simp
    split <;> simp
  simp only at hlines right hle hfew hsome
  cases ok with
  | false =>
    refine ⟨err2, Ev.bind hlines (Ev.congr (fun k => if_neg (by simp)) (Ev.now _)), .inl rfl, ?_⟩
    intro a0 a1 vars rows tr er hc hb
    have := right a0 a1 vars rows tr er hc hb
    injection this with _ this
    cases this
  | true =>
    by_cases h2 : L.length < 2
    · refine ⟨err2, Ev.bind hlines (Ev.congr (fun k => (if_pos rfl).trans (if_pos (by simp; omega))) (Ev.now _)), .inl rfl, ?_⟩
      intro a0 a1 vars rows tr er hc hb
      have := right a0 a1 vars rows tr er hc hb
      injection this with this _
      have h3 := two a0 a1 vars rows tr er.toNat
      rw [← this] at h3
      omega
    obtain ⟨n, hn, hq⟩ := number_ev (rdOf ByteArray.empty (L.map ofL) 0)
    have r0 : rdOf ByteArray.empty (L.map ofL) 0 = ofL (L.getD 0 []) := rd_map L 0
    have step : ∀ v : GV, Ev (fun k => if n < 0 then some err2 else refRest k (L.map ofL) n) v → Ev (fun k => (legationref17_Lines.f k b).bind fun l => if l.2 = true then (if (l.1.length : Int) < 2 then some (0, 0, [], [], false, 0, 2) else
        (legationref17_number.f k (rdOf ByteArray.empty l.1 0) 4096).bind fun n => if n < 0 then some (0, 0, [], [], false, 0, 2) else refRest k l.1 n)
        else some (0, 0, [], [], false, 0, 2)) v := fun v hv =>
      Ev.bind hlines (Ev.congr (fun k => (if_pos rfl).trans (if_neg (by simp; omega))) (Ev.bind hn hv))
    rw [r0, ofL_toList] at hq
    rcases hq with ⟨rfl, hno⟩ | ⟨j, hj, rfl, hjd⟩
    · refine ⟨err2, step _ (Ev.congr (fun k => if_pos (by decide)) (Ev.now _)), .inl rfl, ?_⟩
      intro a0 a1 vars rows tr er hc hb
      have := right a0 a1 vars rows tr er hc hb
      injection this with this _
      obtain ⟨p1, p2, _⟩ := chk_zero hc
      exact absurd (by rw [this]; rfl) (hno a0.toNat (by omega))
    obtain ⟨m, hm, hml, hs, hcpl⟩ := mid_rev L (fun x hx => by have := hle x hx; omega) (by omega) (by omega)
    have hck := rchk_ev (j : Int) m.1 m.2.1 m.2.2.1 (by omega) m.2.2.2.1 m.2.2.2.2.1
    have full : ∀ (a0 a1 : Int) (vars : List ByteArray) (rows : List (List S43)) (tr : Bool) (er : Int), chk a0 a1 vars rows tr er = 0 → b.data.toList = bytesL a0.toNat a1 vars rows tr er.toNat → (j : Int) = a0 ∧ m = (a1, vars, rows, tr, er, true) := by
      intro a0 a1 vars rows tr er hc hb
      have := right a0 a1 vars rows tr er hc hb
      injection this with this _
      obtain ⟨p1, p2, _⟩ := chk_zero hc
      refine ⟨?_, hcpl a0 a1 vars rows tr er hc this⟩
      have : dd j = dd a0.toNat := by rw [← hjd, this]; rfl
      have := dd_inj hj (by omega) this
      omega
    by_cases hmo : m.2.2.2.2.2 = true
    · by_cases hc0 : chk (j : Int) m.1 m.2.1 m.2.2.1 m.2.2.2.1 m.2.2.2.2.1 = 0
      · refine ⟨((j : Int), m.1, m.2.1, m.2.2.1, m.2.2.2.1, m.2.2.2.2.1, 0), step _ (Ev.congr (fun k => if_neg (by omega)) ?_), .inr ⟨rfl, hc0, ?_⟩, ?_⟩
        · exact Ev.bind hm (Ev.congr (fun k => if_pos hmo) (Ev.bind hck (Ev.congr (fun k => if_pos hc0) (Ev.now _))))
        · have h1 := hsome rfl
          simp only [Int.toNat_natCast]
          rw [show b.data.toList = unl L from h1]
          unfold bytesL
          rw [← hs hmo j hjd]
        intro a0 a1 vars rows tr er hc hb
        obtain ⟨rfl, rfl⟩ := full a0 a1 vars rows tr er hc hb
        rfl
      refine ⟨err2, step _ (Ev.congr (fun k => if_neg (by omega)) ?_), .inl rfl, ?_⟩
      · exact Ev.bind hm (Ev.congr (fun k => if_pos hmo) (Ev.bind hck (Ev.congr (fun k => if_neg hc0) (Ev.now _))))
      intro a0 a1 vars rows tr er hc hb
      obtain ⟨rfl, rfl⟩ := full a0 a1 vars rows tr er hc hb
      exact absurd hc hc0
    refine ⟨err2, step _ (Ev.congr (fun k => if_neg (by omega)) ?_), .inl rfl, ?_⟩
    · exact Ev.bind hm (Ev.congr (fun k => if_neg hmo) (Ev.now _))
    intro a0 a1 vars rows tr er hc hb
    obtain ⟨rfl, rfl⟩ := full a0 a1 vars rows tr er hc hb
    exact absurd rfl hmo
theorem same_zero : Ev (fun k => legationref17_Same.f k 0 0 [] [] false 0 0 0 [] [] false 0) true := by
  have h := same_ev 0 0 [] (by simp) [] (by simp) (by simp) false 0 0 0 [] [] false 0
  rwa [decide_eq_true (show sameR 0 0 [] [] false 0 0 0 [] [] false 0 from ⟨rfl, rfl, rfl, rfl, rfl, rfl⟩)] at h
theorem same_self {a0 a1 : Int} {vars : List ByteArray} {rows : List (List S43)} {tr : Bool} {er : Int} (h : chk a0 a1 vars rows tr er = 0) : Ev (fun k => legationref17_Same.f k a0 a1 vars rows tr er a0 a1 vars rows tr er) true := by
  obtain ⟨p1, p2, hk⟩ := chk_zero h
  have hv : vars.length ≤ 9223372036854775807 ∧ rows.length ≤ 9223372036854775807 ∧ ∀ z ∈ rows, z.length ≤ 9223372036854775807 := by
    rcases hk with ⟨k1, k2, k3, k4, k5⟩ | ⟨k1, k2, k3, k4⟩ | ⟨k1, k2, k3, k4, k5, k6⟩
    · obtain ⟨v1, _, v3⟩ := rightR_all k4
      refine ⟨by omega, by omega, fun z hz => ?_⟩
      have := List.all_eq_true.1 v3 z hz
      unfold rowOK at this
      rw [Bool.and_eq_true, beq_iff_eq] at this
      omega
    · subst k2 k3; exact ⟨by simp, by simp, fun z hz => by cases hz⟩
    subst k2 k3; exact ⟨by simp, by simp, fun z hz => by cases hz⟩
  have h2 := same_ev a0 a1 vars hv.1 rows hv.2.1 hv.2.2 tr er a0 a1 vars rows tr er
  rwa [decide_eq_true (show sameR a0 a1 vars rows tr er a0 a1 vars rows tr er from ⟨rfl, rfl, rfl, rfl, rfl, rfl⟩)] at h2
theorem law_Gets (b : ByteArray) : ∃ k, legationlaw17_ResultGets.f k b = some true := by
  apply Ev.rounds
  have join : ∀ v : GV, Ev (fun k => result_Get.f k b) v → Ev (fun k => legationref17_Get.f k b) v → Ev (fun k => legationref17_Same.f k v.1 v.2.1 v.2.2.1 v.2.2.2.1 v.2.2.2.2.1 v.2.2.2.2.2.1 v.1 v.2.1 v.2.2.1 v.2.2.2.1 v.2.2.2.2.1 v.2.2.2.2.2.1) true → Ev (fun k => legationlaw17_ResultGets.f k b) true := by
    intro v h1 h2 h3
    unfold legationlaw17_ResultGets.f
    refine Ev.bind h1 (Ev.bind h2 ?_)
    simp only [if_true]
    refine Ev.bind h3 ?_
    simp only [if_true]
    exact Ev.bind awake_ev (Ev.now _)
  obtain ⟨v, hv, _, hd⟩ := get_any b
  by_cases hz : b.size > 65536
  · refine join (0, 0, [], [], false, 0, 3) ?_ ?_ same_zero
    · unfold result_Get.f
      exact Ev.congr (fun k => if_pos (by omega)) (Ev.now _)
    unfold legationref17_Get.f
    exact Ev.congr (fun k => if_pos (by omega)) (Ev.now _)
  obtain ⟨w, hw, hwd, hwc⟩ := rget_ev b (by omega)
  rcases hd with ⟨h0, hc, hb⟩ | rfl
  · have e := hwc _ _ _ _ _ _ hc hb.symm
    have e2 : w = v := by
      rw [e]
      obtain ⟨v1, v2, v3, v4, v5, v6, v7⟩ := v
      simp only at h0
      rw [h0]
    rw [e2] at hw
    exact join v hv hw (same_self hc)
  rw [if_neg hz] at hv
  rcases hwd with rfl | ⟨h0, hc, hb⟩
  · exact join _ hv hw same_zero
  have hg := get_ev hc (by rw [hb, size_toList]; omega)
  rw [hb, ofL_data] at hg
  have e := Ev.one hv hg
  exfalso
  have := congrArg (fun z : GV => z.2.2.2.2.2.2) e
  exact absurd this (show ¬ ((2 : Int) = 0) by decide)
end Go.Proofs.YtgabadlneeffkaaGreatDoor.G
