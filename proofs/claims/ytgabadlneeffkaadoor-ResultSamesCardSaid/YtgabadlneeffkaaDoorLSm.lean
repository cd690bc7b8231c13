/- What the reference's Same comes to. -/
import Derived.Test.YtgabadlneeffkaaDoorLTa
namespace Go.Proofs.YtgabadlneeffkaaDoor.S
open Go.RowKit Go.Lib Go.Proofs.YtgabadlneeffkaaDoor Go.Proofs.YtgabadlneeffkaaDoorW.PrintWords Go.Proofs.YtgabadlneeffkaaDoorW.PrintLast
set_option linter.unusedVariables false
set_option linter.unusedSimpArgs false
theorem texts_loop (x y : List ByteArray) (hl : x.length = y.length) (hx : x.length ≤ 9223372036854775807) : ∀ (r s : List ByteArray) (i : Nat), x.drop i = r → y.drop i = s →
    Ev (fun k => legationref03_SameTexts.l0 k x y (i : Int)) (decide (B r = B s)) := by
  intro r
  induction r with
  | nil =>
    intro s i hd he
    have h1 := len_of_drop hd
    have : s = [] := by rw [← he]; exact List.drop_eq_nil_of_le (by omega)
    subst this
    refine Ev.step (fun k => by rw [legationref03_SameTexts.l0]) ?_
    simp only [if_neg (show ¬ ((i : Int) < (x.length : Int)) by omega)]
    exact Ev.now _
  | cons c r ih =>
    intro s i hd he
    obtain ⟨hg, hi, hr, _⟩ := get_of_drop hd ByteArray.empty
    cases s with
    | nil => have := len_of_drop he; omega
    | cons d s =>
      obtain ⟨hg2, _, hs, _⟩ := get_of_drop he ByteArray.empty
      refine Ev.step (fun k => by rw [legationref03_SameTexts.l0]) ?_
      have e1 : rdOf ByteArray.empty x (i : Int) = c := hg
      have e2 : rdOf ByteArray.empty y (i : Int) = d := hg2
      simp only [if_pos (show (i : Int) < (x.length : Int) by omega), if_pos (show (0 : Int) ≤ (i : Int) by omega), if_pos (show (i : Int) < (y.length : Int) by omega), e1, e2, wrap_succ (show i < 9223372036854775807 by omega), tl]
      rw [show B (c :: r) = c.data.toList :: B r from rfl, show B (d :: s) = d.data.toList :: B s from rfl]
      by_cases h : c.data.toList = d.data.toList
      · simp only [if_pos h]
        have := ih s (i + 1) hr hs
        rw [show decide (c.data.toList :: B r = d.data.toList :: B s) = decide (B r = B s) by simp [h]]
        exact this
      simp only [if_neg h]
      rw [show decide (c.data.toList :: B r = d.data.toList :: B s) = false by simp [h]]
      exact Ev.now _
theorem texts_ev (x y : List ByteArray) (hx : x.length ≤ 9223372036854775807) : Ev (fun k => legationref03_SameTexts.f k x y) (decide (B x = B y)) := by
  unfold legationref03_SameTexts.f
  by_cases hl : x.length = y.length
  · simp only [if_pos (show (x.length : Int) = (y.length : Int) by omega)]
    exact texts_loop x y hl hx x y 0 rfl rfl
  simp only [if_neg (show ¬ ((x.length : Int) = (y.length : Int)) by omega)]
  rw [decide_eq_false (fun h => hl (by have := congrArg List.length h; rwa [B_len, B_len] at this))]
  exact Ev.now _
theorem ne_tm (c d : S43) : (!(c.f0 == d.f0) || (!(c.f1.data.toList == d.f1.data.toList) || (!(c.f2.data.toList == d.f2.data.toList) || !(c.f3.data.toList == d.f3.data.toList)))) = !decide (T c = T d) := by
  have e : (T c = T d) = (c.f0 = d.f0 ∧ c.f1.data.toList = d.f1.data.toList ∧ c.f2.data.toList = d.f2.data.toList ∧ c.f3.data.toList = d.f3.data.toList) := by simp only [T, TT, Tm.mk.injEq]
  rw [Bool.eq_iff_iff]
  simp only [Bool.or_eq_true, Bool.not_eq_true', beq_eq_false_iff_ne, decide_eq_false_iff_not, e]
  constructor
  · rintro (h | h | h | h) ⟨g0, g1, g2, g3⟩
    · exact h g0
    · exact h g1
    · exact h g2
    exact h g3
  intro h
  by_cases g0 : c.f0 = d.f0
  · by_cases g1 : c.f1.data.toList = d.f1.data.toList
    · by_cases g2 : c.f2.data.toList = d.f2.data.toList
      · exact .inr (.inr (.inr (fun g3 => h ⟨g0, g1, g2, g3⟩)))
      exact .inr (.inr (.inl g2))
    exact .inr (.inl g1)
  exact .inl g0
theorem row_loop (x y : List S43) (hl : x.length = y.length) (hx : x.length ≤ 9223372036854775807) : ∀ (r s : List S43) (i : Nat), x.drop i = r → y.drop i = s →
    Ev (fun k => legationref04_SameRow.l0 k x y (i : Int)) (decide (r.map T = s.map T)) := by
  intro r
  induction r with
  | nil =>
    intro s i hd he
    have h1 := len_of_drop hd
    have : s = [] := by rw [← he]; exact List.drop_eq_nil_of_le (by omega)
    subst this
    refine Ev.step (fun k => by rw [legationref04_SameRow.l0]) ?_
    simp only [if_neg (show ¬ ((i : Int) < (x.length : Int)) by omega)]
    exact Ev.now _
  | cons c r ih =>
    intro s i hd he
    obtain ⟨hg, hi, hr, _⟩ := get_of_drop hd z43
    cases s with
    | nil => have := len_of_drop he; omega
    | cons d s =>
      obtain ⟨hg2, _, hs, _⟩ := get_of_drop he z43
      refine Ev.step (fun k => by rw [legationref04_SameRow.l0]) ?_
      have e1 : rd_T43 x (i : Int) = c := hg
      have e2 : rd_T43 y (i : Int) = d := hg2
      simp only [if_pos (show (i : Int) < (x.length : Int) by omega), if_pos (show (0 : Int) ≤ (i : Int) by omega), if_pos (show (i : Int) < (y.length : Int) by omega), e1, e2, wrap_succ (show i < 9223372036854775807 by omega), tl]
      have ih' := ih s (i + 1) hr hs
      rw [List.map_cons, List.map_cons]
      rw [ne_tm]
      by_cases h : T c = T d
      · rw [show decide (T c :: r.map T = T d :: s.map T) = decide (r.map T = s.map T) by simp [h]]
        simp only [decide_eq_true h, Bool.not_true, Bool.false_eq_true, if_false]
        exact ih'
      rw [show decide (T c :: r.map T = T d :: s.map T) = false by simp [h]]
      simp only [decide_eq_false h, Bool.not_false, if_true]
      exact Ev.now _
theorem row_ev (x y : List S43) (hx : x.length ≤ 9223372036854775807) : Ev (fun k => legationref04_SameRow.f k x y) (decide (x.map T = y.map T)) := by
  unfold legationref04_SameRow.f
  by_cases hl : x.length = y.length
  · simp only [if_pos (show (x.length : Int) = (y.length : Int) by omega)]
    exact row_loop x y hl hx x y 0 rfl rfl
  simp only [if_neg (show ¬ ((x.length : Int) = (y.length : Int)) by omega)]
  rw [decide_eq_false (fun h => hl (by have := congrArg List.length h; rwa [List.length_map, List.length_map] at this))]
  exact Ev.now _
def RT (l : List (List S43)) : List (List Tm) := l.map (·.map T)
theorem table_loop (a b : List ByteArray) (x y : List (List S43)) (hl : x.length = y.length) (hx : x.length ≤ 9223372036854775807) (hin : ∀ z ∈ x, z.length ≤ 9223372036854775807) : ∀ (r s : List (List S43)) (i : Nat), x.drop i = r → y.drop i = s →
    Ev (fun k => legationref04_SameTable.l0 k (i : Int) a x b y) (decide (RT r = RT s)) := by
  intro r
  induction r with
  | nil =>
    intro s i hd he
    have h1 := len_of_drop hd
    have : s = [] := by rw [← he]; exact List.drop_eq_nil_of_le (by omega)
    subst this
    refine Ev.step (fun k => by rw [legationref04_SameTable.l0]) ?_
    simp only [if_neg (show ¬ ((i : Int) < (x.length : Int)) by omega)]
    exact Ev.now _
  | cons c r ih =>
    intro s i hd he
    obtain ⟨hg, hi, hr, _⟩ := get_of_drop hd ([] : List S43)
    cases s with
    | nil => have := len_of_drop he; omega
    | cons d s =>
      obtain ⟨hg2, _, hs, _⟩ := get_of_drop he ([] : List S43)
      refine Ev.step (fun k => by rw [legationref04_SameTable.l0]) ?_
      have e1 : rd_L3 x (i : Int) = c := hg
      have e2 : rd_L3 y (i : Int) = d := hg2
      have hm : c ∈ x := by
        have : c ∈ x.drop i := by rw [hd]; simp
        exact List.mem_of_mem_drop this
      simp only [if_pos (show (i : Int) < (x.length : Int) by omega), if_pos (show (0 : Int) ≤ (i : Int) by omega), if_pos (show (i : Int) < (y.length : Int) by omega), e1, e2, wrap_succ (show i < 9223372036854775807 by omega)]
      have ih' := ih s (i + 1) hr hs
      refine Ev.bind (row_ev c d (hin c hm)) ?_
      rw [show RT (c :: r) = c.map T :: RT r from rfl, show RT (d :: s) = d.map T :: RT s from rfl]
      by_cases h : c.map T = d.map T
      · rw [show decide (c.map T :: RT r = d.map T :: RT s) = decide (RT r = RT s) by simp [h]]
        simp only [decide_eq_true h, if_true]
        exact ih'
      rw [show decide (c.map T :: RT r = d.map T :: RT s) = false by simp [h]]
      simp only [decide_eq_false h, Bool.false_eq_true, if_false]
      exact Ev.now _
theorem table_ev (a b : List ByteArray) (ha : a.length ≤ 9223372036854775807) (x y : List (List S43)) (hx : x.length ≤ 9223372036854775807) (hin : ∀ z ∈ x, z.length ≤ 9223372036854775807) :
    Ev (fun k => legationref04_SameTable.f k a x b y) (decide (B a = B b ∧ RT x = RT y)) := by
  unfold legationref04_SameTable.f
  refine Ev.bind (texts_ev a b ha) ?_
  have j0 : ∀ z : Bool, z = !decide (B a = B b ∧ x.length = y.length) → Ev (fun k => legationref04_SameTable.j0 k z a x b y) (decide (B a = B b ∧ RT x = RT y)) := by
    intro z hz
    refine Ev.step (fun k => by rw [legationref04_SameTable.j0]) ?_
    by_cases hl : B a = B b ∧ x.length = y.length
    · rw [decide_eq_true hl] at hz
      subst hz
      simp only [Bool.not_true, Bool.false_eq_true, if_false]
      rw [show decide (B a = B b ∧ RT x = RT y) = decide (RT x = RT y) by simp [hl.1]]
      exact table_loop a b x y hl.2 hx hin x y 0 rfl rfl
    rw [decide_eq_false hl] at hz
    subst hz
    simp only [Bool.not_false, if_true]
    rw [decide_eq_false (fun h => hl ⟨h.1, by have := congrArg List.length h.2; simpa [RT] using this⟩)]
    exact Ev.now _
  by_cases h : B a = B b
  · simp only [decide_eq_true h, if_true]
    refine j0 _ ?_
    rw [Bool.eq_iff_iff]
    simp only [h, true_and, bne_iff_ne, ne_eq, Bool.not_eq_true', decide_eq_false_iff_not]
    omega
  simp only [decide_eq_false h, Bool.false_eq_true, if_false]
  exact j0 _ (by rw [decide_eq_false (fun h' => h h'.1)]; rfl)
/-- two replies read the same -/
def sameR (a0 a1 : Int) (a2 : List ByteArray) (a3 : List (List S43)) (a4 : Bool) (a5 : Int) (b0 b1 : Int) (b2 : List ByteArray) (b3 : List (List S43)) (b4 : Bool) (b5 : Int) : Prop :=
  a0 = b0 ∧ a1 = b1 ∧ a4 = b4 ∧ a5 = b5 ∧ B a2 = B b2 ∧ RT a3 = RT b3
instance (a0 a1 : Int) (a2 : List ByteArray) (a3 : List (List S43)) (a4 : Bool) (a5 : Int) (b0 b1 : Int) (b2 : List ByteArray) (b3 : List (List S43)) (b4 : Bool) (b5 : Int) : Decidable (sameR a0 a1 a2 a3 a4 a5 b0 b1 b2 b3 b4 b5) := by unfold sameR; infer_instance
theorem same_ev (a0 a1 : Int) (a2 : List ByteArray) (h2 : a2.length ≤ 9223372036854775807) (a3 : List (List S43)) (h3 : a3.length ≤ 9223372036854775807) (hin : ∀ z ∈ a3, z.length ≤ 9223372036854775807) (a4 : Bool) (a5 : Int)
    (b0 b1 : Int) (b2 : List ByteArray) (b3 : List (List S43)) (b4 : Bool) (b5 : Int) :
    Ev (fun k => legationref17_Same.f k a0 a1 a2 a3 a4 a5 b0 b1 b2 b3 b4 b5) (decide (sameR a0 a1 a2 a3 a4 a5 b0 b1 b2 b3 b4 b5)) := by
  unfold legationref17_Same.f
  by_cases q0 : a0 = b0
  · simp only [if_pos q0]
    by_cases q1 : a1 = b1
    · simp only [if_pos q1]
      by_cases q4 : a4 = b4
      · simp only [beq_iff_eq.mpr q4, if_true]
        by_cases q5 : a5 = b5
        · simp only [if_pos q5]
          refine Ev.bind (table_ev a2 b2 h2 a3 b3 h3 hin) ?_
          rw [show decide (sameR a0 a1 a2 a3 a4 a5 b0 b1 b2 b3 b4 b5) = decide (B a2 = B b2 ∧ RT a3 = RT b3) from decide_eq_decide.2 (by unfold sameR; simp [q0, q1, q4, q5])]
          exact Ev.now _
        simp only [if_neg q5]
        rw [decide_eq_false (show ¬ sameR a0 a1 a2 a3 a4 a5 b0 b1 b2 b3 b4 b5 from fun h => q5 h.2.2.2.1)]
        exact Ev.now _
      simp only [beq_eq_false_iff_ne.mpr q4, Bool.false_eq_true, if_false]
      rw [decide_eq_false (show ¬ sameR a0 a1 a2 a3 a4 a5 b0 b1 b2 b3 b4 b5 from fun h => q4 h.2.2.1)]
      exact Ev.now _
    simp only [if_neg q1]
    rw [decide_eq_false (show ¬ sameR a0 a1 a2 a3 a4 a5 b0 b1 b2 b3 b4 b5 from fun h => q1 h.2.1)]
    exact Ev.now _
  simp only [if_neg q0]
  rw [decide_eq_false (show ¬ sameR a0 a1 a2 a3 a4 a5 b0 b1 b2 b3 b4 b5 from fun h => q0 h.1)]
  exact Ev.now _
end Go.Proofs.YtgabadlneeffkaaDoor.S
