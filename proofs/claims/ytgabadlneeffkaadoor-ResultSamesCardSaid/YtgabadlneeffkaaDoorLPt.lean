/- What term.Text and result.Put come to. -/
import Derived.Test.YtgabadlneeffkaaDoorLVx
import Derived.Test.YtgabadlneeffkaaDoorLTa
namespace Go.Proofs.YtgabadlneeffkaaDoor.S
open Go.RowKit Go.Lib Go.Proofs.YtgabadlneeffkaaDoor Go.Proofs.YtgabadlneeffkaaDoorW.PrintWords Go.Proofs.YtgabadlneeffkaaDoorW.PrintLast
set_option linter.unusedVariables false
set_option linter.unusedSimpArgs false

theorem ba_ext {x y : ByteArray} (h : x.data.toList = y.data.toList) : x = y := by rw [← ofL_data x, ← ofL_data y, h]
theorem app_data (a b : ByteArray) : (a ++ b).data.toList = a.data.toList ++ b.data.toList := by
  conv => lhs; rw [← ofL_data a, ← ofL_data b, ofL_append, ofL_toList]
theorem esc_len (l : List UInt8) : (esc l).length ≤ 2 * l.length := by
  induction l with
  | nil => simp [esc]
  | cons b l ih =>
    rw [show esc (b :: l) = escB b ++ esc l from rfl, List.length_append, List.length_cons]
    have : (escB b).length ≤ 2 := by
      unfold escB
      repeat' split
      all_goals simp
    omega
theorem quoted_loop (s : ByteArray) (hs : s.size ≤ 4096) : ∀ (r : List UInt8) (i : Nat) (acc : List UInt8), s.data.toList.drop i = r → i ≤ s.size → acc.length ≤ 1 + 2 * i →
    Ev (fun k => term_quoted.l0 k s (nat acc) (i : Int)) (ofL (acc ++ esc r ++ [34])) := by
  intro r
  induction r with
  | nil =>
    intro i acc hd hi ha
    have := size_of_drop hd
    refine Ev.step (fun k => by rw [term_quoted.l0]) ?_
    simp only [if_neg (show ¬ ((i : Int) < (s.size : Int)) by omega), if_pos (show (nat acc).length < 140737488355328 by rw [nat_length]; omega)]
    rw [show nat acc ++ [34] = nat (acc ++ [34]) by rw [nat_append]; rfl, strOfNums_nat, show esc [] = [] from rfl, List.append_nil]
    exact Ev.now _
  | cons c r ih =>
    intro i acc hd hi ha
    obtain ⟨hb, his, hr⟩ := bt_of_drop hd
    have two : ∀ d : UInt8, escB c = [92, d] → Ev (fun k => if (nat acc).length + ([92, (d.toNat : Int)] : List Int).length < 140737488355328 then term_quoted.l0 k s (nat acc ++ [92, (d.toNat : Int)]) ((i + 1 : Nat) : Int) else none) (ofL (acc ++ esc (c :: r) ++ [34])) := by
      intro d hd2
      simp only [if_pos (show (nat acc).length + ([92, (d.toNat : Int)] : List Int).length < 140737488355328 by rw [nat_length]; simp; omega)]
      have h := ih (i + 1) (acc ++ [92, d]) hr (by omega) (by simp; omega)
      rw [nat_append] at h
      rw [show esc (c :: r) = escB c ++ esc r from rfl, hd2, ← List.append_assoc acc]
      exact h
    refine Ev.step (fun k => by rw [term_quoted.l0]) ?_
    simp only [if_pos (show (i : Int) < (s.size : Int) by omega), if_pos (show (0 : Int) ≤ (i : Int) by omega), hb]
    have j1t : (c.toNat = 34 ∨ c.toNat = 92) → Ev (fun k => term_quoted.j1 k s (nat acc) (i : Int) (c.toNat : Int) true) (ofL (acc ++ esc (c :: r) ++ [34])) := by
      intro hc
      refine Ev.step (fun k => by rw [term_quoted.j1]) ?_
      simp only [if_true, if_pos (show (i : Int) < (s.size : Int) by omega), if_pos (show (0 : Int) ≤ (i : Int) by omega), hb, Option.bind_some, wrap_succ (show i < 9223372036854775807 by omega)]
      exact two c (by
        unfold escB
        rcases hc with hc | hc
        · rw [if_pos hc, byte_eq hc (by decide)]
          rfl
        rw [if_neg (by omega), if_pos hc, byte_eq hc (by decide)]
        rfl)
    by_cases h1 : c.toNat = 34
    · simp only [if_pos (show (c.toNat : Int) = 34 by omega), beq_iff_eq.mpr (show (c.toNat : Int) = 34 by omega)]
      exact j1t (.inl h1)
    simp only [if_neg (show ¬ ((c.toNat : Int) = 34) by omega)]
    by_cases h2 : c.toNat = 92
    · simp only [beq_iff_eq.mpr (show (c.toNat : Int) = 92 by omega)]
      exact j1t (.inr h2)
    simp only [beq_eq_false_iff_ne.mpr (show ¬ ((c.toNat : Int) = 92) by omega)]
    refine Ev.step (fun k => by rw [term_quoted.j1]) ?_
    simp only [Bool.false_eq_true, if_false, if_pos (show (i : Int) < (s.size : Int) by omega), if_pos (show (0 : Int) ≤ (i : Int) by omega), hb, Option.bind_some, wrap_succ (show i < 9223372036854775807 by omega)]
    by_cases h3 : c.toNat = 10
    · simp only [if_pos (show (c.toNat : Int) = 10 by omega)]
      exact two 110 (by unfold escB; rw [if_neg h1, if_neg h2, if_pos h3])
    simp only [if_neg (show ¬ ((c.toNat : Int) = 10) by omega)]
    by_cases h4 : c.toNat = 9
    · simp only [if_pos (show (c.toNat : Int) = 9 by omega)]
      exact two 116 (by unfold escB; rw [if_neg h1, if_neg h2, if_neg h3, if_pos h4])
    simp only [if_neg (show ¬ ((c.toNat : Int) = 9) by omega), if_pos (show (nat acc).length < 140737488355328 by rw [nat_length]; omega)]
    have h := ih (i + 1) (acc ++ [c]) hr (by omega) (by simp; omega)
    rw [nat_append] at h
    rw [show esc (c :: r) = escB c ++ esc r from rfl, show escB c = [c] by unfold escB; rw [if_neg h1, if_neg h2, if_neg h3, if_neg h4], ← List.append_assoc acc]
    exact h
theorem quoted_ev (s : ByteArray) (hs : s.size ≤ 4096) : Ev (fun k => term_quoted.f k s) (ofL (34 :: (esc s.data.toList ++ [34]))) := by
  unfold term_quoted.f
  exact quoted_loop s hs _ 0 [34] rfl (by omega) (by simp)
theorem okIri_len {l : List UInt8} (h : okIri l = true) : l.length ≤ 4096 ∧ l ≠ [] := by
  unfold okIri at h
  simp only [Bool.and_eq_true, decide_eq_true_eq, Bool.not_eq_true'] at h
  exact ⟨h.1.2, by intro e; rw [e] at h; simp at h⟩
theorem okName_len {l : List UInt8} (h : okName l = true) : l.length ≤ 32 ∧ l ≠ [] := by
  rw [okName_all] at h
  simp only [Bool.and_eq_true, decide_eq_true_eq] at h
  exact ⟨h.1.1.2, by intro e; rw [e] at h; simp at h⟩
theorem okLang_len {l : List UInt8} (h : okLang l = true) : l.length ≤ 8 := by
  unfold okLang at h
  simp only [Bool.and_eq_true, decide_eq_true_eq] at h
  exact h.1.2
theorem okText_len {l : List UInt8} (h : okText l = true) : l.length ≤ 4096 := by
  unfold okText at h
  simp only [Bool.and_eq_true, decide_eq_true_eq] at h
  exact h.1
theorem okTm_two {t : Tm} (h : okTm t = true) (hk : t.k = 2) : okText t.x = true ∧ (t.ty = [] ∨ (okIri t.ty = true ∧ t.la = [])) ∧ (t.la = [] ∨ okLang t.la = true) := by
  unfold okTm at h
  rw [if_pos hk] at h
  simp only [Bool.and_eq_true, Bool.or_eq_true] at h
  obtain ⟨⟨h1, h2⟩, h3⟩ := h
  refine ⟨h1, ?_, ?_⟩
  · rcases h2 with h2 | h2
    · exact .inl (isEmpty_nil h2)
    refine .inr ⟨h2, ?_⟩
    rcases h3 with h3 | ⟨h3, _⟩
    · exact isEmpty_nil h3
    exact absurd (isEmpty_nil h3) (okIri_len h2).2
  rcases h3 with h3 | ⟨_, h3⟩
  · exact .inl (isEmpty_nil h3)
  exact .inr h3
theorem okTm_other {t : Tm} (h : okTm t = true) (hk : t.k ≠ 2) : t.ty = [] ∧ t.la = [] ∧ t.x.length ≤ 4096 ∧ (t.k = 0 → t.x = []) ∧ (t.k = 1 → okIri t.x = true) ∧ (t.k = 3 ∨ t.k = 4 → okName t.x = true) ∧ (t.k = 0 ∨ t.k = 1 ∨ t.k = 3 ∨ t.k = 4) := by
  unfold okTm at h
  rw [if_neg hk] at h
  simp only [Bool.and_eq_true] at h
  obtain ⟨⟨h1, h2⟩, h3⟩ := h
  by_cases k0 : t.k = 0
  · rw [if_pos k0] at h3
    have := isEmpty_nil h3
    exact ⟨isEmpty_nil h1, isEmpty_nil h2, by rw [this]; simp, fun _ => this, fun h => by omega, fun h => by omega, .inl k0⟩
  rw [if_neg k0] at h3
  by_cases k1 : t.k = 1
  · rw [if_pos k1] at h3
    exact ⟨isEmpty_nil h1, isEmpty_nil h2, (okIri_len h3).1, fun h => by omega, fun _ => h3, fun h => by omega, .inr (.inl k1)⟩
  rw [if_neg k1] at h3
  by_cases k34 : t.k = 3 ∨ t.k = 4
  · rw [if_pos k34] at h3
    exact ⟨isEmpty_nil h1, isEmpty_nil h2, by have := (okName_len h3).1; omega, fun h => by omega, fun h => by omega, fun _ => h3, .inr (.inr k34)⟩
  rw [if_neg k34] at h3; cases h3
theorem ttext_len {t : Tm} (h : okTm t = true) : (ttext t).length ≤ 20000 := by
  by_cases hk : t.k = 2
  · obtain ⟨h1, h2, h3⟩ := okTm_two h hk
    have l1 := esc_len t.x
    have l2 := okText_len h1
    have l3 : t.ty.length ≤ 4096 := by rcases h2 with h2 | h2; rw [h2]; simp; exact (okIri_len h2.1).1
    have l4 : t.la.length ≤ 8 := by rcases h3 with h3 | h3; rw [h3]; simp; exact okLang_len h3
    have e : ttext t = 34 :: (esc t.x ++ 34 :: tail2 t) := by unfold ttext; rw [if_neg (by omega), if_neg (by omega), if_neg (by omega), if_pos hk]
    rw [e]
    have l5 : (tail2 t).length ≤ 4096 + 4 + 9 := by
      unfold tail2
      rw [List.length_append]
      split <;> split <;> simp <;> omega
    simp only [List.length_cons, List.length_append]
    omega
  have h' := (okTm_other h hk).2.2.1
  unfold ttext
  split
  · simp; omega
  split
  · simp; omega
  split
  · simp; omega
  simp
theorem text_ev (k0 : Int) (a b c : ByteArray) (h : okTm (TT k0 a b c) = true) : Ev (fun k => term_Text.f k k0 a b c) (ofL (ttext (TT k0 a b c)), 0) := by
  unfold term_Text.f
  refine Ev.bind (tcheck_ev k0 a b c) ?_
  rw [h, e02_true]
  simp only [if_true, tl]
  by_cases k2 : k0 = 2
  · subst k2
    obtain ⟨h1, h2, h3⟩ := okTm_two h rfl
    have l2 := okText_len h1
    rw [show (TT 2 a b c).x = a.data.toList from rfl, size_toList] at l2
    simp only [if_neg (show ¬ ((2 : Int) = 1) by decide), if_neg (show ¬ ((2 : Int) = 3) by decide), if_neg (show ¬ ((2 : Int) = 4) by decide)]
    refine Ev.bind (quoted_ev a l2) ?_
    have lq := esc_len a.data.toList
    rw [size_toList] at lq
    have e : ttext (TT 2 a b c) = 34 :: (esc a.data.toList ++ 34 :: tail2 (TT 2 a b c)) := rfl
    rw [e]
    by_cases hb : b.data.toList = []
    · simp only [if_pos hb]
      by_cases hc : c.data.toList = []
      · simp only [if_pos hc]
        rw [show tail2 (TT 2 a b c) = [] by
          show (if b.data.toList.isEmpty then _ else _) ++ (if c.data.toList.isEmpty then _ else _) = _
          rw [hb, hc]
          rfl]
        exact Ev.now _
      simp only [if_neg hc]
      have l4 : c.size ≤ 8 := by
        rcases h3 with h3 | h3
        · exact absurd h3 hc
        have := okLang_len h3
        rwa [show (TT 2 a b c).la = c.data.toList from rfl, size_toList] at this
      have z1 : ((⟨#[64]⟩ : ByteArray) ++ c).size = 1 + c.size := by rw [ByteArray.size_append]; rfl
      have z3 : (ofL (34 :: (esc a.data.toList ++ [34]))).size ≤ 8194 := by rw [ofL_size]; simp; omega
      rw [if_pos (by omega), if_pos (by rw [z1]; omega)]
      rw [show tail2 (TT 2 a b c) = 64 :: c.data.toList by
        show (if b.data.toList.isEmpty then _ else _) ++ (if c.data.toList.isEmpty then _ else _) = _
        rw [hb, ne_empty hc]
        rfl]
      rw [show ofL (34 :: (esc a.data.toList ++ 34 :: 64 :: c.data.toList)) = ofL (34 :: (esc a.data.toList ++ [34])) ++ ((⟨#[64]⟩ : ByteArray) ++ c) from ba_ext (by simp [app_data, ofL_toList])]
      exact Ev.now _
    simp only [if_neg hb]
    obtain ⟨h2, hc⟩ : okIri b.data.toList = true ∧ c.data.toList = [] := by
      rcases h2 with h2 | h2
      · exact absurd h2 hb
      exact h2
    have l3 := (okIri_len h2).1
    rw [size_toList] at l3
    have z1 : ((⟨#[94, 94, 60]⟩ : ByteArray) ++ b).size = 3 + b.size := by rw [ByteArray.size_append]; rfl
    have z2 : (((⟨#[94, 94, 60]⟩ : ByteArray) ++ b) ++ (⟨#[62]⟩ : ByteArray)).size = 3 + b.size + 1 := by rw [ByteArray.size_append, z1]; rfl
    have z3 : (ofL (34 :: (esc a.data.toList ++ [34]))).size ≤ 8194 := by rw [ofL_size]; simp; omega
    rw [if_pos (by omega), if_pos (by rw [z1]; omega), if_pos (by rw [z2]; omega), if_pos hc]
    rw [show tail2 (TT 2 a b c) = 94 :: 94 :: 60 :: (b.data.toList ++ [62]) by
      show (if b.data.toList.isEmpty then _ else _) ++ (if c.data.toList.isEmpty then _ else _) = _
      rw [hc, ne_empty hb]
      show _ ++ [] = _
      rw [List.append_nil]
      rfl]
    rw [show ofL (34 :: (esc a.data.toList ++ 34 :: 94 :: 94 :: 60 :: (b.data.toList ++ [62]))) = ofL (34 :: (esc a.data.toList ++ [34])) ++ (((⟨#[94, 94, 60]⟩ : ByteArray) ++ b) ++ (⟨#[62]⟩ : ByteArray)) from ba_ext (by simp [app_data, ofL_toList])]
    exact Ev.now _
  obtain ⟨_, _, hl, hk⟩ := okTm_other h k2
  rw [show (TT k0 a b c).x = a.data.toList from rfl, size_toList] at hl
  by_cases k1 : k0 = 1
  · simp only [if_pos k1]
    have z1 : ((⟨#[60]⟩ : ByteArray) ++ a).size = 1 + a.size := by rw [ByteArray.size_append]; rfl
    rw [if_pos (by omega), if_pos (by rw [z1]; omega)]
    rw [show ttext (TT k0 a b c) = 60 :: (a.data.toList ++ [62]) by simp [ttext, TT, k1]]
    rw [show ofL (60 :: (a.data.toList ++ [62])) = ((⟨#[60]⟩ : ByteArray) ++ a) ++ (⟨#[62]⟩ : ByteArray) from ba_ext (by simp [app_data, ofL_toList])]
    exact Ev.now _
  simp only [if_neg k1]
  by_cases k3 : k0 = 3
  · simp only [if_pos k3]
    rw [if_pos (by omega)]
    rw [show ttext (TT k0 a b c) = 95 :: 58 :: a.data.toList by simp [ttext, TT, k3]]
    rw [show ofL (95 :: 58 :: a.data.toList) = (⟨#[95, 58]⟩ : ByteArray) ++ a from ba_ext (by simp [app_data, ofL_toList])]
    exact Ev.now _
  simp only [if_neg k3]
  by_cases k4 : k0 = 4
  · simp only [if_pos k4]
    rw [if_pos (by omega)]
    rw [show ttext (TT k0 a b c) = 63 :: a.data.toList by simp [ttext, TT, k4]]
    rw [show ofL (63 :: a.data.toList) = (⟨#[63]⟩ : ByteArray) ++ a from ba_ext (by simp [app_data, ofL_toList])]
    exact Ev.now _
  simp only [if_neg k4, if_neg k2]
  rw [show ttext (TT k0 a b c) = [] by simp [ttext, TT, k1, k2, k3, k4]]
  exact Ev.now _
end Go.Proofs.YtgabadlneeffkaaDoor.S
