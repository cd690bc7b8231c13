/- PlanApart's law holds of what the functions come to. -/
import Derived.Test.YtcfoebkbahpnaaaQPe
namespace Go.Proofs.Ytcfoebkbahpnaaa.K
open Go.RowKit Go.Lib Go.Proofs.Ytcfoebkbahpnaaa Go.Proofs.YtcfoebkbahpnaaaW.PrintWords Go.Proofs.YtcfoebkbahpnaaaW.PrintLast
set_option linter.unusedVariables false
set_option linter.unusedSimpArgs false

theorem tasksP_len (c : List S45) (fs : List Int) (names : List ByteArray) : ∀ (r : List S45) (i : Nat), (tasksP c fs names i r).length ≤ r.length ∧ ∀ e ∈ tasksP c fs names i r, e.f4.length ≤ c.length
  | [], i => ⟨by simp [tasksP], fun e he => by cases he⟩
  | o :: r, i => by
    obtain ⟨h1, h2⟩ := tasksP_len c fs names r (i + 1)
    rw [tasksP]
    repeat' split
    · exact ⟨by simp; omega, h2⟩
    · refine ⟨by simp; omega, fun e he => ?_⟩
      rcases List.mem_cons.1 he with rfl | he
      · simp
      exact h2 e he
    · refine ⟨by simp; omega, fun e he => ?_⟩
      rcases List.mem_cons.1 he with rfl | he
      · simp only [List.length_drop, List.length_take]
        omega
      exact h2 e he
    exact ⟨by simp; omega, h2⟩
theorem cnt_le_of {c : List S45} (h : ∀ o ∈ c, o.f1.length ≤ 32) : cnt c ≤ 32 * c.length := by
  induction c with
  | nil => simp [cnt]
  | cons o c ih =>
    have h1 := h o (List.mem_cons_self ..)
    have h2 := ih (fun o' ho => h o' (List.mem_cons_of_mem _ ho))
    rw [show o :: c = [o] ++ c from rfl, cnt_append, cnt_one]
    simp
    omega
theorem cnt_take_le (c : List S45) (i : Nat) : cnt (c.take i) ≤ cnt c := by
  have := cnt_append (c.take i) (c.drop i)
  rw [List.take_append_drop] at this
  omega
theorem tcnt_append (a b : List S38) : tcnt (a ++ b) = tcnt a + tcnt b := by simp [tcnt]
theorem tcnt_one (e : S38) : tcnt [e] = e.f1.length + cnt e.f4 := by simp [tcnt]
theorem tcnt_take_le (T : List S38) (i : Nat) : tcnt (T.take i) ≤ tcnt T := by
  have := tcnt_append (T.take i) (T.drop i)
  rw [List.take_append_drop] at this
  omega
theorem wrap_add {a b : Nat} (h : a + b ≤ 4611686018427387904) : wrap64 ((a : Int) + (b : Int)) = ((a + b : Nat) : Int) := by unfold wrap64; omega
theorem l3_loop (c : List S45) (hc : c.length ≤ 128) (hs : cnt c ≤ 4096) : ∀ (r : List S45) (i : Nat), c.drop i = r → Ev (fun k => legationlaw21_PlanApart.l3 k c (cnt c : Int) (cnt (c.take i) : Int) (i : Int)) true := by
  intro r
  induction r with
  | nil =>
    intro i hd
    have := len_of_drop hd
    refine Ev.step (fun k => by rw [legationlaw21_PlanApart.l3]) ?_
    simp only [if_neg (show ¬ ((i : Int) < (c.length : Int)) by omega), List.take_of_length_le this, if_true]
    exact Ev.bind awake_ev (Ev.now _)
  | cons o r ih =>
    intro i hd
    obtain ⟨hg, hi, hr, ht⟩ := get_of_drop hd z45
    have e : rd_T45 c (i : Int) = o := hg
    have h1 := cnt_take_le c (i + 1)
    rw [ht, cnt_append, cnt_one] at h1
    refine Ev.step (fun k => by rw [legationlaw21_PlanApart.l3]) ?_
    simp only [if_pos (show (i : Int) < (c.length : Int) by omega), if_pos (show (0 : Int) ≤ (i : Int) by omega), e, wrap_succ (show i < 9223372036854775807 by omega), wrap_add (show cnt (c.take i) + o.f1.length ≤ 4611686018427387904 by omega)]
    have := ih (i + 1) hr
    rw [ht, cnt_append, cnt_one] at this
    exact this
theorem l2_loop (c : List S45) (T : List S38) (hT : T.length ≤ 128) (a : Nat) (ha : a < T.length) (e : S38) (he : rd_T38 T (a : Int) = e) (hl : e.f4.length ≤ 128) (x : Nat) (hx : x + cnt e.f4 ≤ 8192)
    (hn : Ev (fun k => legationlaw21_PlanApart.l0 k c T ((x + cnt e.f4 : Nat) : Int) ((a + 1 : Nat) : Int)) true) : ∀ (r : List S45) (m : Nat), e.f4.drop m = r →
    Ev (fun k => legationlaw21_PlanApart.l2 k c T ((x + cnt (e.f4.take m) : Nat) : Int) (a : Int) (m : Int)) true := by
  intro r
  induction r with
  | nil =>
    intro m hd
    have := len_of_drop hd
    refine Ev.step (fun k => by rw [legationlaw21_PlanApart.l2]) ?_
    simp only [if_pos (show (0 : Int) ≤ (a : Int) by omega), if_pos (show (a : Int) < (T.length : Int) by omega), he, if_neg (show ¬ ((m : Int) < (e.f4.length : Int)) by omega), List.take_of_length_le this, wrap_succ (show a < 9223372036854775807 by omega)]
    exact hn
  | cons o r ih =>
    intro m hd
    obtain ⟨hg, hi, hr, ht⟩ := get_of_drop hd z45
    have e2 : rd_T45 e.f4 (m : Int) = o := hg
    have h1 := cnt_take_le e.f4 (m + 1)
    rw [ht, cnt_append, cnt_one] at h1
    refine Ev.step (fun k => by rw [legationlaw21_PlanApart.l2]) ?_
    simp only [if_pos (show (0 : Int) ≤ (a : Int) by omega), if_pos (show (a : Int) < (T.length : Int) by omega), he, if_pos (show (m : Int) < (e.f4.length : Int) by omega), if_pos (show (0 : Int) ≤ (m : Int) by omega), e2, wrap_succ (show m < 9223372036854775807 by omega), wrap_add (show (x + cnt (e.f4.take m)) + o.f1.length ≤ 4611686018427387904 by omega)]
    have := ih (m + 1) hr
    rw [ht, cnt_append, cnt_one] at this
    rw [Nat.add_assoc]
    exact this
theorem l1_loop (c : List S45) (hc : c.length ≤ 128) (fs : List Int) (hF : ∀ t, t < c.length → FromAt c t (fs.getD t 0)) (T : List S38) (hT : T.length ≤ 128)
    (hm : ∀ e ∈ T, ∃ j : Nat, j < c.length ∧ e.f0 = (j : Int) ∧ taskInn c fs c.length j = false ∧ (e.f2 ≠ -2 → isSv c j)) (hp : T.Pairwise (fun a b => a.f0 < b.f0))
    (a : Nat) (ha : a < T.length) (e : S38) (he : rd_T38 T (a : Int) = e) (hea : T[a] = e) (x : Nat) (hx : x + e.f1.length ≤ 8192)
    (hn : Ev (fun k => legationlaw21_PlanApart.l2 k c T ((x + e.f1.length : Nat) : Int) (a : Int) 0) true) : ∀ (r : List S38) (b : Nat), T.drop b = r →
    Ev (fun k => legationlaw21_PlanApart.l1 k c T (x : Int) (a : Int) (b : Int)) true := by
  intro r
  induction r with
  | nil =>
    intro b hd
    have := len_of_drop hd
    refine Ev.step (fun k => by rw [legationlaw21_PlanApart.l1]) ?_
    simp only [if_neg (show ¬ ((b : Int) < (T.length : Int)) by omega), if_pos (show (0 : Int) ≤ (a : Int) by omega), if_pos (show (a : Int) < (T.length : Int) by omega), he, wrap_add (show x + e.f1.length ≤ 4611686018427387904 by omega)]
    exact hn
  | cons g r ih =>
    intro b hd
    obtain ⟨hg, hb, hr, _⟩ := get_of_drop hd z38
    have e2 : rd_T38 T (b : Int) = g := hg
    have hgb : T[b] = g := by
      have := List.drop_eq_getElem_cons hb
      rw [hd] at this
      injection this with h1 _
      exact h1.symm
    have next := ih (b + 1) hr
    refine Ev.step (fun k => by rw [legationlaw21_PlanApart.l1]) ?_
    simp only [if_pos (show (b : Int) < (T.length : Int) by omega), if_pos (show (0 : Int) ≤ (b : Int) by omega), e2, wrap_succ (show b < 9223372036854775807 by omega)]
    by_cases h2 : g.f2 = -2
    · simp only [if_pos h2]; exact next
    simp only [if_neg h2]
    by_cases hab : (a : Int) = (b : Int)
    · simp only [if_pos hab]; exact next
    simp only [if_neg hab, if_pos (show (0 : Int) ≤ (a : Int) by omega), if_pos (show (a : Int) < (T.length : Int) by omega), he]
    obtain ⟨s, hs, hgs, _, hsv⟩ := hm g (hgb ▸ List.getElem_mem hb)
    obtain ⟨j, hj, hej, hnj, _⟩ := hm e (hea ▸ List.getElem_mem ha)
    rw [hgs, hej]
    refine Ev.bind (rFrom_ev hc hs (hF s hs)) ?_
    by_cases h3 : (j : Int) ≥ fs.getD s 0
    · simp only [if_pos h3]
      by_cases h4 : (j : Int) ≤ (s : Int)
      · exfalso
        have hne : j ≠ s := by
          intro h5
          have hlt : a < b ∨ b < a := by omega
          rcases hlt with h6 | h6
          · have := List.pairwise_iff_getElem.1 hp a b ha hb h6
            rw [hea, hgb] at this
            omega
          have := List.pairwise_iff_getElem.1 hp b a hb ha h6
          rw [hea, hgb] at this
          omega
        have : taskInn c fs c.length (j : Int) = true := (inn_iff c fs j).2 ⟨s, hs, hsv h2, h3, by omega⟩
        rw [hnj] at this
        cases this
      simp only [if_neg h4]; exact next
    simp only [if_neg h3]; exact next
theorem l0_loop (c : List S45) (hc : c.length ≤ 128) (hs : cnt c ≤ 4096) (fs : List Int) (hF : ∀ t, t < c.length → FromAt c t (fs.getD t 0)) (T : List S38) (hT : T.length ≤ 128)
    (hm : ∀ e ∈ T, ∃ j : Nat, j < c.length ∧ e.f0 = (j : Int) ∧ taskInn c fs c.length j = false ∧ (e.f2 ≠ -2 → isSv c j)) (hp : T.Pairwise (fun a b => a.f0 < b.f0)) (hl : ∀ e ∈ T, e.f4.length ≤ 128) (ht : tcnt T = cnt c) : ∀ (r : List S38) (a : Nat), T.drop a = r → a ≤ T.length →
    Ev (fun k => legationlaw21_PlanApart.l0 k c T (tcnt (T.take a) : Int) (a : Int)) true := by
  intro r
  induction r with
  | nil =>
    intro a hd _
    have := len_of_drop hd
    refine Ev.step (fun k => by rw [legationlaw21_PlanApart.l0]) ?_
    simp only [if_neg (show ¬ ((a : Int) < (T.length : Int)) by omega), List.take_of_length_le this, ht]
    exact l3_loop c hc hs c 0 rfl
  | cons e r ih =>
    intro a hd _
    obtain ⟨hg, ha, hr, htk⟩ := get_of_drop hd z38
    have e2 : rd_T38 T (a : Int) = e := hg
    have hea : T[a] = e := by
      have := List.drop_eq_getElem_cons ha
      rw [hd] at this
      injection this with h1 _
      exact h1.symm
    have next := ih (a + 1) hr (by omega)
    have h1 := tcnt_take_le T (a + 1)
    rw [htk, tcnt_append, tcnt_one] at h1 next
    refine Ev.step (fun k => by rw [legationlaw21_PlanApart.l0]) ?_
    simp only [if_pos (show (a : Int) < (T.length : Int) by omega)]
    refine l1_loop c hc fs hF T hT hm hp a ha e e2 hea (tcnt (T.take a)) (by omega) ?_ T 0 rfl
    have := l2_loop c T hT a ha e e2 (hl e (hea ▸ List.getElem_mem ha)) (tcnt (T.take a) + e.f1.length) (by omega) (by rw [Nat.add_assoc]; exact next) e.f4 0 rfl
    exact this
theorem law_Apart (c : List S45) (names : List ByteArray) (hb : ∀ o ∈ c, opB o) : Ev (fun k => legationlaw21_PlanApart.f k c names) true := by
  unfold legationlaw21_PlanApart.f
  refine Ev.bind (light_ev c) ?_
  cases lightP c with
  | false => simp only [Bool.false_eq_true, if_false]; exact Ev.bind awake_ev (Ev.now _)
  | true =>
    simp only [if_true]
    refine Ev.bind (tasks_ev c names hb) ?_
    have other : ∀ x : Int, x ≠ 0 → Ev (fun k => if x = 0 then legationlaw21_PlanApart.l0 k c [] 0 0 else if ((([] : List S38).length : Nat) : Int) = 0 then (legationlaw21_awake.f k).bind fun t => some t else some false) true := fun x hx => by
      simp only [if_neg hx, List.length_nil, Int.natCast_zero, if_true]
      exact Ev.bind awake_ev (Ev.now _)
    unfold tasksAt
    by_cases h0 : namesP names = 0
    · rw [if_pos h0]
      by_cases h1 : (resultsP c).2 = 0
      · rw [if_pos h1]
        simp only [if_true]
        obtain ⟨a, b, d, e⟩ := resultsP_inv (c := c) (outs := (resultsP c).1) (by rw [← h1])
        have hs : cnt c ≤ 4096 := by
          have := cnt_le_of (c := c) (fun o ho => by
            obtain ⟨i, hi, rfl⟩ := List.getElem_of_mem ho
            have := e i hi
            rw [List.getD_eq_getElem?_getD, List.getElem?_eq_getElem hi] at this
            exact (opOK_lens this).1)
          omega
        have ht := tasks_cnt names d e c 0 rfl (Nat.zero_le _)
        simp only [sumN, Nat.add_zero] at ht
        have hlen := tasksP_len c (resultsP c).1 names c 0
        exact l0_loop c b hs (resultsP c).1 d _ (by omega) (fun e' he' => by
          obtain ⟨j, _, h2⟩ := tasksP_mem c (resultsP c).1 names c 0 rfl e' he'
          exact ⟨j, h2⟩) (tasksP_rising c (resultsP c).1 names c 0 rfl) (fun e' he' => by have := hlen.2 e' he'; omega) ht _ 0 rfl (Nat.zero_le _)
      rw [if_neg h1]
      exact other _ h1
    rw [if_neg h0]
    exact other _ h0
end Go.Proofs.Ytcfoebkbahpnaaa.K
