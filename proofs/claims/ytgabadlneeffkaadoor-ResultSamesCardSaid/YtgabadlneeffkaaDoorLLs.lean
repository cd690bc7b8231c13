/- The law ResultSames, on what the printed functions compute. -/
import Derived.Test.YtgabadlneeffkaaDoorLPg
import Derived.Test.YtgabadlneeffkaaDoorLSm
namespace Go.Proofs.YtgabadlneeffkaaDoor.S
open Go.RowKit Go.Lib Go.Proofs.YtgabadlneeffkaaDoor Go.Proofs.YtgabadlneeffkaaDoorW.PrintWords Go.Proofs.YtgabadlneeffkaaDoorW.PrintLast
set_option linter.unusedVariables false
theorem eqs_loop (x y : List ByteArray) (hl : x.length = y.length) (hx : x.length ≤ 9223372036854775807) : ∀ (r s : List ByteArray) (i : Nat), x.drop i = r → y.drop i = s →
    Ev (fun k => slices_Equal_string_string.l0 k x y (x.length : Int) (i : Int)) (decide (B r = B s)) := by
  intro r
  induction r with
  | nil =>
    intro s i hd he
    have h1 := len_of_drop hd
    have : s = [] := by rw [← he]; exact List.drop_eq_nil_of_le (by omega)
    subst this
    refine Ev.step (fun k => by rw [slices_Equal_string_string.l0]) ?_
    simp only [if_neg (show ¬ ((i : Int) < (x.length : Int)) by omega)]
    exact Ev.now _
  | cons c r ih =>
    intro s i hd he
    obtain ⟨hg, hi, hr, _⟩ := get_of_drop hd ByteArray.empty
    cases s with
    | nil => have := len_of_drop he; omega
    | cons d s =>
      obtain ⟨hg2, _, hs, _⟩ := get_of_drop he ByteArray.empty
      refine Ev.step (fun k => by rw [slices_Equal_string_string.l0]) ?_
      have e1 : rdOf ByteArray.empty x (i : Int) = c := hg
      have e2 : rdOf ByteArray.empty y (i : Int) = d := hg2
      simp only [if_pos (show (i : Int) < (x.length : Int) by omega), if_pos (show (0 : Int) ≤ (i : Int) by omega), if_pos (show (i : Int) < (y.length : Int) by omega), e1, e2, wrap_succ (show i < 9223372036854775807 by omega), tl]
      rw [show B (c :: r) = c.data.toList :: B r from rfl, show B (d :: s) = d.data.toList :: B s from rfl]
      by_cases h : c.data.toList = d.data.toList
      · simp only [if_pos h]
        have := ih s (i + 1) hr hs
        rw [show decide (c.data.toList :: B r = d.data.toList :: B s) = decide (B r = B s) by simp [h]]
        exact this
      simp only [if_neg h]
      rw [show decide (c.data.toList :: B r = d.data.toList :: B s) = false by simp [h]]
      exact Ev.now _
theorem eqs_ev (x y : List ByteArray) (hx : x.length ≤ 9223372036854775807) : Ev (fun k => slices_Equal_string_string.f k x y) (decide (B x = B y)) := by
  unfold slices_Equal_string_string.f
  by_cases hl : x.length = y.length
  · simp only [if_pos (show (x.length : Int) = (y.length : Int) by omega)]
    exact eqs_loop x y hl hx x y 0 rfl rfl
  simp only [if_neg (show ¬ ((x.length : Int) = (y.length : Int)) by omega)]
  rw [decide_eq_false (fun h => hl (by have := congrArg List.length h; rwa [B_len, B_len] at this))]
  exact Ev.now _
theorem eqt_loop (x y : List S43) (hl : x.length = y.length) (hx : x.length ≤ 9223372036854775807) : ∀ (r s : List S43) (i : Nat), x.drop i = r → y.drop i = s →
    Ev (fun k => api_Term_25.l0 k x y (x.length : Int) (i : Int)) (decide (r.map T = s.map T)) := by
  intro r
  induction r with
  | nil =>
    intro s i hd he
    have h1 := len_of_drop hd
    have : s = [] := by rw [← he]; exact List.drop_eq_nil_of_le (by omega)
    subst this
    refine Ev.step (fun k => by rw [api_Term_25.l0]) ?_
    simp only [if_neg (show ¬ ((i : Int) < (x.length : Int)) by omega)]
    exact Ev.now _
  | cons c r ih =>
    intro s i hd he
    obtain ⟨hg, hi, hr, _⟩ := get_of_drop hd z43
    cases s with
    | nil => have := len_of_drop he; omega
    | cons d s =>
      obtain ⟨hg2, _, hs, _⟩ := get_of_drop he z43
      refine Ev.step (fun k => by rw [api_Term_25.l0]) ?_
      have e1 : rd_T43 x (i : Int) = c := hg
      have e2 : rd_T43 y (i : Int) = d := hg2
      simp only [if_pos (show (i : Int) < (x.length : Int) by omega), if_pos (show (0 : Int) ≤ (i : Int) by omega), if_pos (show (i : Int) < (y.length : Int) by omega), e1, e2, wrap_succ (show i < 9223372036854775807 by omega), tl]
      have ih' := ih s (i + 1) hr hs
      rw [List.map_cons, List.map_cons]
      rw [ne_tm]
      by_cases h : T c = T d
      · rw [show decide (T c :: r.map T = T d :: s.map T) = decide (r.map T = s.map T) by simp [h]]
        simp only [decide_eq_true h, Bool.not_true, Bool.false_eq_true, if_false]
        exact ih'
      rw [show decide (T c :: r.map T = T d :: s.map T) = false by simp [h]]
      simp only [decide_eq_false h, Bool.not_false, if_true]
      exact Ev.now _
theorem eqt_ev (x y : List S43) (hx : x.length ≤ 9223372036854775807) : Ev (fun k => api_Term_25.f k x y) (decide (x.map T = y.map T)) := by
  unfold api_Term_25.f
  by_cases hl : x.length = y.length
  · simp only [if_pos (show (x.length : Int) = (y.length : Int) by omega)]
    exact eqt_loop x y hl hx x y 0 rfl rfl
  simp only [if_neg (show ¬ ((x.length : Int) = (y.length : Int)) by omega)]
  rw [decide_eq_false (fun h => hl (by have := congrArg List.length h; rwa [List.length_map, List.length_map] at this))]
  exact Ev.now _
theorem eqr_ev : ∀ (x y : List (List S43)), x.length = y.length → (∀ z ∈ x, z.length ≤ 9223372036854775807) → Ev (fun k => result_Same.l k x y) (decide (RT x = RT y))
  | [], [], _, _ => Ev.now _
  | [], _ :: _, h, _ => by simp at h
  | _ :: _, [], h, _ => by simp at h
  | c :: r, d :: s, hl, hz => by
    simp only [result_Same.l]
    refine Ev.bind (eqt_ev c d (hz c (by simp))) ?_
    have ih := eqr_ev r s (by simpa using hl) (fun z hz' => hz z (List.mem_cons_of_mem _ hz'))
    rw [show RT (c :: r) = c.map T :: RT r from rfl, show RT (d :: s) = d.map T :: RT s from rfl]
    by_cases h : c.map T = d.map T
    · rw [show decide (c.map T :: RT r = d.map T :: RT s) = decide (RT r = RT s) by simp [h]]
      simp only [decide_eq_true h, if_true]
      exact ih
    rw [show decide (c.map T :: RT r = d.map T :: RT s) = false by simp [h]]
    simp only [decide_eq_false h, Bool.false_eq_true, if_false]
    exact Ev.now _
theorem psame_ev (a0 a1 : Int) (a2 : List ByteArray) (h2 : a2.length ≤ 9223372036854775807) (a3 : List (List S43)) (hin : ∀ z ∈ a3, z.length ≤ 9223372036854775807) (a4 : Bool) (a5 : Int)
    (b0 b1 : Int) (b2 : List ByteArray) (b3 : List (List S43)) (b4 : Bool) (b5 : Int) :
    Ev (fun k => result_Same.f k a0 a1 a2 a3 a4 a5 b0 b1 b2 b3 b4 b5) (decide (sameR a0 a1 a2 a3 a4 a5 b0 b1 b2 b3 b4 b5)) := by
  unfold result_Same.f
  by_cases q : a0 = b0 ∧ a1 = b1 ∧ a4 = b4 ∧ a5 = b5
  · simp only [if_pos q]
    refine Ev.bind (eqs_ev a2 b2 h2) ?_
    by_cases h : B a2 = B b2
    · simp only [decide_eq_true h, if_true]
      by_cases hl : a3.length = b3.length
      · simp only [if_pos hl]
        rw [show decide (sameR a0 a1 a2 a3 a4 a5 b0 b1 b2 b3 b4 b5) = decide (RT a3 = RT b3) from decide_eq_decide.2 (by unfold sameR; simp [q.1, q.2.1, q.2.2.1, q.2.2.2, h])]
        exact eqr_ev a3 b3 hl hin
      simp only [if_neg hl]
      rw [decide_eq_false (show ¬ sameR a0 a1 a2 a3 a4 a5 b0 b1 b2 b3 b4 b5 from fun h' => hl (by have := congrArg List.length h'.2.2.2.2.2; simpa [RT] using this))]
      exact Ev.now _
    simp only [decide_eq_false h, Bool.false_eq_true, if_false]
    rw [decide_eq_false (show ¬ sameR a0 a1 a2 a3 a4 a5 b0 b1 b2 b3 b4 b5 from fun h' => h h'.2.2.2.2.1)]
    exact Ev.now _
  simp only [if_neg q]
  rw [decide_eq_false (show ¬ sameR a0 a1 a2 a3 a4 a5 b0 b1 b2 b3 b4 b5 from fun h => q ⟨h.1, h.2.1, h.2.2.1, h.2.2.2.1⟩)]
  exact Ev.now _
theorem Ev.one {α : Type} {g : Nat → Option α} {a b : α} (h : Ev g a) (k : Ev g b) : a = b := by
  obtain ⟨K, hK⟩ := h
  obtain ⟨L, hL⟩ := k
  have h1 := hK (K + L) (by omega)
  rw [hL (K + L) (by omega)] at h1
  exact (Option.some.inj h1).symm
theorem B_inj : ∀ {x y : List ByteArray}, B x = B y → x = y
  | [], [], _ => rfl
  | [], _ :: _, h => by cases h
  | _ :: _, [], h => by cases h
  | a :: r, b :: s, h => by
    rw [show B (a :: r) = a.data.toList :: B r from rfl, show B (b :: s) = b.data.toList :: B s from rfl] at h
    injection h with h1 h2
    rw [ba_ext h1, B_inj h2]
theorem T_inj {a b : S43} (h : T a = T b) : a = b := by
  obtain ⟨a0, a1, a2, a3⟩ := a
  obtain ⟨b0, b1, b2, b3⟩ := b
  simp only [T, TT, Tm.mk.injEq] at h
  obtain ⟨rfl, h1, h2, h3⟩ := h
  rw [ba_ext h1, ba_ext h2, ba_ext h3]
theorem map_inj' {α β : Type} {f : α → β} (hf : ∀ {a b : α}, f a = f b → a = b) : ∀ {x y : List α}, x.map f = y.map f → x = y
  | [], [], _ => rfl
  | [], _ :: _, h => by cases h
  | _ :: _, [], h => by cases h
  | a :: r, b :: s, h => by
    rw [List.map_cons, List.map_cons] at h
    injection h with h1 h2
    rw [hf h1, map_inj' hf h2]
theorem RT_inj {x y : List (List S43)} (h : RT x = RT y) : x = y := map_inj' (fun h => map_inj' T_inj h) h
theorem law_Sames (a0 a1 : Int) (a2 : List ByteArray) (a3 : List (List S43)) (a4 : Bool) (a5 : Int) (b0 b1 : Int) (b2 : List ByteArray) (b3 : List (List S43)) (b4 : Bool) (b5 : Int) (hr : a3.length ≤ 9223372036854775807) (hs : b3.length ≤ 9223372036854775807)
    (hv : a2.length ≤ 9223372036854775807) (hin : ∀ z ∈ a3, z.length ≤ 9223372036854775807) : ∃ k, legationlaw17_ResultSames.f k a0 a1 a2 a3 a4 a5 b0 b1 b2 b3 b4 b5 = some true := by
  apply Ev.rounds
  unfold legationlaw17_ResultSames.f
  refine Ev.bind (same_ev a0 a1 a2 hv a3 hr hin a4 a5 b0 b1 b2 b3 b4 b5) ?_
  refine Ev.bind (psame_ev a0 a1 a2 hv a3 hin a4 a5 b0 b1 b2 b3 b4 b5) ?_
  simp only [bne_self_eq_false, Bool.false_eq_true, if_false]
  have aw : Ev (fun k => (legationlaw17_awake.f k).bind fun t => some t) true := Ev.bind awake_ev (Ev.now _)
  have P := put_ev a0 a1 a2 a3 hr a4 a5
  have Q := put_ev b0 b1 b2 b3 hs b4 b5
  by_cases h1 : chk a0 a1 a2 a3 a4 a5 = 0
  case neg =>
    rw [if_neg h1] at P
    refine Ev.bind P ?_
    refine Ev.bind Q ?_
    simp only [if_neg h1]
    exact aw
  by_cases l1 : (bytesL a0.toNat a1 a2 a3 a4 a5.toNat).length > 65536
  case pos =>
    rw [if_pos h1, finL, if_pos l1] at P
    refine Ev.bind P ?_
    refine Ev.bind Q ?_
    simp only [if_neg (show ¬ ((3 : Int) = 0) by decide)]
    exact aw
  rw [if_pos h1, finL, if_neg l1] at P
  by_cases h2 : chk b0 b1 b2 b3 b4 b5 = 0
  case neg =>
    rw [if_neg h2] at Q
    refine Ev.bind P ?_
    refine Ev.bind Q ?_
    simp only [if_true, if_neg h2]
    exact aw
  by_cases l2 : (bytesL b0.toNat b1 b2 b3 b4 b5.toNat).length > 65536
  case pos =>
    rw [if_pos h2, finL, if_pos l2] at Q
    refine Ev.bind P ?_
    refine Ev.bind Q ?_
    simp only [if_true, if_neg (show ¬ ((3 : Int) = 0) by decide)]
    exact aw
  rw [if_pos h2, finL, if_neg l2] at Q
  refine Ev.bind P ?_
  refine Ev.bind Q ?_
  have key : ((ofL (bytesL a0.toNat a1 a2 a3 a4 a5.toNat)).toList == (ofL (bytesL b0.toNat b1 b2 b3 b4 b5.toNat)).toList) = decide (sameR a0 a1 a2 a3 a4 a5 b0 b1 b2 b3 b4 b5) := by
    rw [tl, tl, ofL_toList, ofL_toList, Bool.eq_iff_iff, beq_iff_eq, decide_eq_true_eq]
    constructor
    · intro e
      have G := get_ev h1 (by omega)
      have G2 := get_ev h2 (by omega)
      rw [e] at G
      have := Ev.one G G2
      simp only [Prod.mk.injEq] at this
      obtain ⟨e0, e1, e2, e3, e4, e5, _⟩ := this
      exact ⟨e0, e1, e4, e5, by rw [e2], by rw [e3]⟩
    rintro ⟨rfl, rfl, rfl, rfl, e2, e3⟩
    rw [B_inj e2, RT_inj e3]
  simp only [if_true, key, BEq.rfl]
  exact aw
end Go.Proofs.YtgabadlneeffkaaDoor.S
