/- What result.Get comes to at the bytes of a right reply: the reply. -/
import Derived.Test.YtgabadlneeffkaaDoorLVx
import Derived.Test.YtgabadlneeffkaaDoorLPp
import Derived.Test.YtgabadlneeffkaaDoorLRd
namespace Go.Proofs.YtgabadlneeffkaaDoor.S
open Go.RowKit Go.Lib Go.Proofs.YtgabadlneeffkaaDoor Go.Proofs.YtgabadlneeffkaaDoorW.PrintWords Go.Proofs.YtgabadlneeffkaaDoorW.PrintLast
set_option linter.unusedVariables false
set_option linter.unusedSimpArgs false

theorem splitC_join : ∀ l : List (List UInt8), l ≠ [] → (∀ x ∈ l, (9 : UInt8) ∉ x) → splitC 9 (joinT l) = l
  | [], h, _ => absurd rfl h
  | [a], _, h => splitC_miss 9 a (h a (by simp))
  | a :: b :: r, _, h => by
    rw [joinT_cons, splitC_hit 9 a _ (h a (by simp)), splitC_join (b :: r) (by simp) (fun x hx => h x (List.mem_cons_of_mem _ hx))]
theorem splitC_unl : ∀ l : List (List UInt8), (∀ x ∈ l, (10 : UInt8) ∉ x) → splitC 10 (unl l) = l ++ [[]]
  | [], _ => rfl
  | a :: r, h => by
    rw [unl_cons, splitC_hit 10 a _ (h a (by simp)), splitC_unl r (fun x hx => h x (List.mem_cons_of_mem _ hx))]
    rfl
theorem split_eq (l : List UInt8) (c : UInt8) (h : l.length < 4294967281) : strings_Split.f (ofL l) (ofL [c]) = some ((splitC c l).map ofL) := by
  unfold strings_Split.f
  rw [if_pos ⟨by rw [ofL_size]; exact h, by rw [ofL_size]; simp⟩, splitB_eq, ofL_toList]
/-! ### what holds neither a tab nor a line feed -/
def clean (l : List UInt8) : Prop := (9 : UInt8) ∉ l ∧ (10 : UInt8) ∉ l
theorem clean_all {p : UInt8 → Bool} {l : List UInt8} (h : l.all p = true) (h9 : p 9 = false) (h10 : p 10 = false) : clean l := ⟨all_not_mem h h9, all_not_mem h h10⟩
theorem clean_nil : clean [] := ⟨by simp, by simp⟩
theorem clean_cons {a : UInt8} {l : List UInt8} (h9 : a ≠ 9) (h10 : a ≠ 10) (h : clean l) : clean (a :: l) := ⟨by simp only [List.mem_cons, not_or]; exact ⟨Ne.symm h9, h.1⟩, by simp only [List.mem_cons, not_or]; exact ⟨Ne.symm h10, h.2⟩⟩
theorem clean_app {a b : List UInt8} (h : clean a) (k : clean b) : clean (a ++ b) := ⟨by simp only [List.mem_append, not_or]; exact ⟨h.1, k.1⟩, by simp only [List.mem_append, not_or]; exact ⟨h.2, k.2⟩⟩
theorem clean_iri {l : List UInt8} (h : okIri l = true) : clean l := clean_all (okIri_all h) (by decide) (by decide)
theorem clean_name {l : List UInt8} (h : okName l = true) : clean l := by
  rw [okName_all] at h
  simp only [Bool.and_eq_true] at h
  exact clean_all h.1.2 (by decide) (by decide)
theorem clean_lang {l : List UInt8} (h : okLang l = true) : clean l := clean_all (okLang_all h) (by decide) (by decide)
theorem clean_escB (b : UInt8) : clean (escB b) := by
  refine forall_byte (P := fun b => clean (escB b)) ?_ b
  unfold clean
  decide +kernel
theorem clean_esc (l : List UInt8) : clean (esc l) := by
  induction l with
  | nil => exact clean_nil
  | cons b l ih => exact clean_app (clean_escB b) ih
theorem clean_text {t : Tm} (h : okTm t = true) : clean (ttext t) := by
  by_cases hk : t.k = 2
  · obtain ⟨h1, h2, h3⟩ := okTm_two h hk
    have e : ttext t = 34 :: (esc t.x ++ 34 :: tail2 t) := by unfold ttext; rw [if_neg (by omega), if_neg (by omega), if_neg (by omega), if_pos hk]
    rw [e]
    refine clean_cons (by decide) (by decide) (clean_app (clean_esc _) (clean_cons (by decide) (by decide) ?_))
    unfold tail2
    refine clean_app ?_ ?_
    · split
      · exact clean_nil
      rename_i hne
      have hi : okIri t.ty = true := by
        rcases h2 with h2 | h2
        · rw [h2] at hne; exact absurd rfl hne
        exact h2.1
      exact clean_cons (by decide) (by decide) (clean_cons (by decide) (by decide) (clean_cons (by decide) (by decide) (clean_app (clean_iri hi) (clean_cons (by decide) (by decide) clean_nil))))
    split
    · exact clean_nil
    rename_i hne
    have hi : okLang t.la = true := by
      rcases h3 with h3 | h3
      · rw [h3] at hne; exact absurd rfl hne
      exact h3
    exact clean_cons (by decide) (by decide) (clean_lang hi)
  obtain ⟨_, _, _, _, h1, h34, hc⟩ := okTm_other h hk
  unfold ttext
  split
  · rename_i k1
    exact clean_cons (by decide) (by decide) (clean_app (clean_iri (h1 k1)) (clean_cons (by decide) (by decide) clean_nil))
  split
  · rename_i k3
    exact clean_cons (by decide) (by decide) (clean_cons (by decide) (by decide) (clean_name (h34 (.inl k3))))
  split
  · rename_i k4
    exact clean_cons (by decide) (by decide) (clean_name (h34 (.inr k4)))
  exact clean_nil
theorem noten_join : ∀ l : List (List UInt8), (∀ x ∈ l, clean x) → (10 : UInt8) ∉ joinT l
  | [], _ => by simp [joinT]
  | [a], h => (h a (by simp)).2
  | a :: b :: r, h => by
    rw [joinT_cons]
    simp only [List.mem_append, List.mem_cons, not_or]
    exact ⟨(h a (by simp)).2, by decide, noten_join (b :: r) (fun x hx => h x (List.mem_cons_of_mem _ hx))⟩
theorem dd_clean (n : Nat) (h : n < 4096) : clean (dd n) := by
  have key : ∀ a b : Fin 64, (dd (64 * a.val + b.val)).all (fun c => c != 9 && c != 10) = true := by decide +kernel
  have := key ⟨n / 64, by omega⟩ ⟨n % 64, by omega⟩
  simp only at this
  rw [show 64 * (n / 64) + n % 64 = n by omega] at this
  exact clean_all this (by decide) (by decide)

/-! ### reading a right term's text -/
theorem val_of (t : S43) : readV (some (T t)) = (t.f0, t.f1, t.f2, t.f3, 0) := by
  unfold readV T TT
  simp only [ofL_data]
theorem read_ev {t : S43} (h : okTm (T t) = true) : Ev (fun k => term_Read.f k (ofL (ttext (T t)))) (t.f0, t.f1, t.f2, t.f3, 0) := by
  have hl := ttext_len h
  unfold term_Read.f
  refine Ev.bind (prefix_ev 20000 (ofL (ttext (T t))) (by rw [ofL_size]; exact hl) (by omega)) ?_
  rw [ofL_toList, ofL_size]
  by_cases h0 : (T t).k = 0
  · have e : T t = tm0 := by
      obtain ⟨h1, h2, _, h3, _⟩ := okTm_other h (by omega)
      have := h3 h0
      revert h0 h1 h2 this
      generalize T t = x
      intro h0 h1 h2 h3
      obtain ⟨k, x, ty, la⟩ := x
      simp only at h0 h1 h2 h3
      subst h0 h1 h2 h3
      rfl
    have hv := val_of t
    rw [e] at hv
    rw [e, show ttext tm0 = [] from rfl]
    refine Ev.congr (fun k => if_pos rfl) ?_
    show Ev (fun _ => some (readV (some tm0))) _
    rw [hv]
    exact Ev.now _
  rw [tpre_text h h0]
  have hv := val_of t
  unfold readV at hv
  simp only at hv
  simp only [preV, val5, List.length_nil, Nat.sub_zero, if_true]
  rw [hv]
  exact Ev.now _

/-! ### rows -/
theorem cells_ev (vars : List ByteArray) (Y : List ByteArray) (i : Nat) (hi : i < 9223372036854775807) (accR : List (List S43)) (hR : accR.length < 5864062014805) (row : List S43) (hrow : row.length ≤ 32) (hc : row.all cellOK = true)
    (v : List ByteArray × List (List S43) × Bool) (hn : Ev (fun k => result_rows.l1 k Y (Y.length : Int) ((i + 1 : Nat) : Int) vars (accR ++ [row])) v) :
    ∀ (r acc : List S43), row = acc ++ r →
    Ev (fun k => result_rows.l2 k acc Y (Y.length : Int) (i : Int) (row.map fun t => ofL (ttext (T t))) ((row.map fun t => ofL (ttext (T t))).length : Int) (acc.length : Int) vars accR) v := by
  intro r
  induction r with
  | nil =>
    intro acc hd
    rw [List.append_nil] at hd
    subst hd
    refine Ev.step (fun k => by rw [result_rows.l2]) ?_
    simp only [List.length_map, if_neg (show ¬ ((row.length : Int) < (row.length : Int)) by omega), if_pos hR, wrap_succ hi]
    exact hn
  | cons c r ih =>
    intro acc hd
    have hl : row.length = acc.length + r.length + 1 := by rw [hd]; simp; omega
    have hmem : c ∈ row := by rw [hd]; simp
    have hcc := cellOK_tm (List.all_eq_true.1 hc c hmem)
    have hg : rdOf ByteArray.empty (row.map fun t => ofL (ttext (T t))) (acc.length : Int) = ofL (ttext (T c)) := by
      unfold rdOf
      rw [Int.toNat_natCast, List.getD_eq_getElem?_getD, List.getElem?_map, hd, List.getElem?_append_right (Nat.le_refl _)]
      simp
    refine Ev.step (fun k => by rw [result_rows.l2]) ?_
    simp only [List.length_map, if_pos (show (acc.length : Int) < (row.length : Int) by omega), if_pos (show (0 : Int) ≤ (acc.length : Int) by omega), hg, wrap_succ (show acc.length < 9223372036854775807 by omega)]
    refine Ev.bind (read_ev hcc.1) ?_
    simp only [if_true, if_pos (show acc.length < 2513169434916 by omega)]
    have h := ih (acc ++ [c]) (by rw [List.append_assoc]; exact hd)
    simp only [List.length_map, List.length_append, List.length_singleton] at h
    exact h
theorem split_row (row : List S43) (n : Nat) (hl : row.length = n) (hn : n ≤ 32) (hc : row.all cellOK = true) : result_split.f (ofL (rowL row)) (n : Int) = some (row.map fun t => ofL (ttext (T t))) := by
  unfold result_split.f
  have hcl : ∀ x ∈ row.map (fun t => ttext (T t)), clean x := by
    intro x hx
    obtain ⟨t, ht, rfl⟩ := List.mem_map.1 hx
    exact clean_text (cellOK_tm (List.all_eq_true.1 hc t ht)).1
  have hlen : (rowL row).length < 4294967281 := by
    have := joinT_len 20000 (row.map fun t => ttext (T t)) (by
      intro x hx
      obtain ⟨t, ht, rfl⟩ := List.mem_map.1 hx
      exact ttext_len (cellOK_tm (List.all_eq_true.1 hc t ht)).1)
    rw [List.length_map] at this
    have h2 : row.length * (20000 + 1) ≤ 32 * 20001 := Nat.mul_le_mul_right _ (by omega)
    exact Nat.lt_of_le_of_lt (Nat.le_trans this h2) (by decide)
  by_cases h0 : n = 0
  · have : row = [] := List.length_eq_zero_iff.1 (by omega)
    subst this
    simp only [if_pos (show (n : Int) = 0 by omega), tl, ofL_toList]
    rw [if_pos (show rowL [] = ([] : List UInt8) from rfl)]
    rfl
  simp only [if_neg (show ¬ ((n : Int) = 0) by omega)]
  rw [show (⟨#[9]⟩ : ByteArray) = ofL [9] from rfl, split_eq _ _ hlen]
  unfold rowL
  rw [splitC_join _ (by
    intro e
    have := congrArg List.length e
    rw [List.length_map] at this
    simp at this
    rw [this] at hl
    simp at hl
    omega) (fun x hx => (hcl x hx).1), Option.bind_some, List.map_map]
  rfl
theorem lines_ev (vars : List ByteArray) (hv : vars.length ≤ 32) (rows : List (List S43)) (hrows : rows.length ≤ 1024) (hok : rows.all (rowOK vars.length) = true) : ∀ (r acc : List (List S43)), rows = acc ++ r →
    Ev (fun k => result_rows.l1 k (rows.map fun row => ofL (rowL row)) ((rows.map fun row => ofL (rowL row)).length : Int) (acc.length : Int) vars acc) (vars, rows, true) := by
  intro r
  induction r with
  | nil =>
    intro acc hd
    rw [List.append_nil] at hd
    subst hd
    refine Ev.step (fun k => by rw [result_rows.l1]) ?_
    simp only [List.length_map, if_neg (show ¬ ((rows.length : Int) < (rows.length : Int)) by omega)]
    exact Ev.now _
  | cons row r ih =>
    intro acc hd
    have hl : rows.length = acc.length + r.length + 1 := by rw [hd]; simp; omega
    have hmem : row ∈ rows := by rw [hd]; simp
    have hro := List.all_eq_true.1 hok row hmem
    unfold rowOK at hro
    rw [Bool.and_eq_true, beq_iff_eq] at hro
    have hg : rdOf ByteArray.empty (rows.map fun row => ofL (rowL row)) (acc.length : Int) = ofL (rowL row) := by
      unfold rdOf
      rw [Int.toNat_natCast, List.getD_eq_getElem?_getD, List.getElem?_map, hd, List.getElem?_append_right (Nat.le_refl _)]
      simp
    refine Ev.step (fun k => by rw [result_rows.l1]) ?_
    simp only [List.length_map, if_pos (show (acc.length : Int) < (rows.length : Int) by omega), if_pos (show (0 : Int) ≤ (acc.length : Int) by omega), hg, split_row row vars.length hro.1 hv hro.2, Option.bind_some]
    have h := ih (acc ++ [row]) (by rw [List.append_assoc]; exact hd)
    simp only [List.length_append, List.length_singleton] at h
    have := cells_ev vars (rows.map fun row => ofL (rowL row)) acc.length (by omega) acc (by omega) row (by omega) hro.2 _ h row [] rfl
    simp only [List.length_map] at this
    exact this
theorem names_ev (X : List ByteArray) (vars : List ByteArray) (hv : vars.length ≤ 32) (v : List ByteArray × List (List S43) × Bool) (hn : Ev (fun k => result_rows.j1 k X vars) v) : ∀ (r acc : List ByteArray), vars = acc ++ r →
    Ev (fun k => result_rows.l0 k X (((B vars).map (63 :: ·)).map ofL) ((((B vars).map (63 :: ·)).map ofL).length : Int) (acc.length : Int) acc) v := by
  intro r
  induction r with
  | nil =>
    intro acc hd
    rw [List.append_nil] at hd
    subst hd
    refine Ev.step (fun k => by rw [result_rows.l0]) ?_
    simp only [List.length_map, B_len, if_neg (show ¬ ((vars.length : Int) < (vars.length : Int)) by omega)]
    exact hn
  | cons c r ih =>
    intro acc hd
    have hl : vars.length = acc.length + r.length + 1 := by rw [hd]; simp; omega
    have hg : rdOf ByteArray.empty (((B vars).map (63 :: ·)).map ofL) (acc.length : Int) = ofL (63 :: c.data.toList) := by
      unfold rdOf B
      rw [Int.toNat_natCast, List.getD_eq_getElem?_getD, List.getElem?_map, List.getElem?_map, List.getElem?_map, hd, List.getElem?_append_right (Nat.le_refl _)]
      simp
    refine Ev.step (fun k => by rw [result_rows.l0]) ?_
    have hp : strings_HasPrefix.f (ofL (63 :: c.data.toList)) (⟨#[63]⟩ : ByteArray) = some true := by
      unfold strings_HasPrefix.f
      rw [ofL_toList]
      simp [Lib.hasPrefix, List.isPrefixOf]
    have he : (ofL (63 :: c.data.toList)).extract 1 (ofL (63 :: c.data.toList)).size = c := by
      rw [ext_end, ofL_toList, List.drop_succ_cons, List.drop_zero, ofL_data]
    simp only [List.length_map, B_len, if_pos (show (acc.length : Int) < (vars.length : Int) by omega), if_pos (show (0 : Int) ≤ (acc.length : Int) by omega), hg, hp, Option.bind_some, if_true, he, if_pos (show acc.length < 8796093022208 by omega), wrap_succ (show acc.length < 9223372036854775807 by omega)]
    simp only [if_pos (show (1 : Int) ≤ ((ofL (63 :: c.data.toList)).size : Int) by rw [ofL_size, List.length_cons]; omega)]
    have h := ih (acc ++ [c]) (by rw [List.append_assoc]; exact hd)
    simp only [List.length_map, B_len, List.length_append, List.length_singleton] at h
    exact h
theorem rows_ev (vars : List ByteArray) (hv : vars.length ≤ 32) (hnm : ∀ x ∈ B vars, okName x = true) (rows : List (List S43)) (hrows : rows.length ≤ 1024) (hok : rows.all (rowOK vars.length) = true) :
    Ev (fun k => result_rows.f k ((joinT ((B vars).map (63 :: ·)) :: rows.map rowL).map ofL)) (vars, rows, true) := by
  unfold result_rows.f
  have hx : (joinT ((B vars).map (63 :: ·)) :: rows.map rowL).map ofL = ofL (joinT ((B vars).map (63 :: ·))) :: rows.map fun row => ofL (rowL row) := by
    rw [List.map_cons, List.map_map]; rfl
  rw [hx]
  have h0 : rdOf ByteArray.empty (ofL (joinT ((B vars).map (63 :: ·))) :: rows.map fun row => ofL (rowL row)) 0 = ofL (joinT ((B vars).map (63 :: ·))) := rfl
  have hz : (0 : Int) < ((ofL (joinT ((B vars).map (63 :: ·))) :: rows.map fun row => ofL (rowL row)).length : Int) := by rw [List.length_cons]; omega
  have hj : Ev (fun k => result_rows.j1 k (ofL (joinT ((B vars).map (63 :: ·))) :: rows.map fun row => ofL (rowL row)) vars) (vars, rows, true) := by
    refine Ev.step (fun k => by rw [result_rows.j1]) ?_
    simp only [if_pos (show (1 : Int) ≤ ((ofL (joinT ((B vars).map (63 :: ·))) :: rows.map fun row => ofL (rowL row)).length : Int) by omega), List.drop_succ_cons, List.drop_zero, Option.bind_some]
    exact lines_ev vars hv rows hrows hok rows [] rfl
  simp only [if_neg (show ¬ (((ofL (joinT ((B vars).map (63 :: ·))) :: rows.map fun row => ofL (rowL row)).length : Int) = 0) by omega), if_pos hz, h0, tl, ofL_toList]
  by_cases hvz : vars = []
  · subst hvz
    simp only [show joinT ((B []).map (63 :: ·)) = [] from rfl, if_true]
    exact hj
  have hne : (B vars).map (63 :: ·) ≠ [] := by
    intro e
    have := congrArg List.length e
    rw [List.length_map, B_len] at this
    exact hvz (List.length_eq_zero_iff.1 this)
  have hcl : ∀ x ∈ (B vars).map (63 :: ·), clean x := by
    intro x hx
    obtain ⟨y, hy, rfl⟩ := List.mem_map.1 hx
    exact clean_cons (by decide) (by decide) (clean_name (hnm y hy))
  have hjn : joinT ((B vars).map (63 :: ·)) ≠ [] := by
    cases hb : (B vars).map (63 :: ·) with
    | nil => exact absurd hb hne
    | cons a r =>
      have ha : a ≠ [] := by
        have : a ∈ (B vars).map (63 :: ·) := by rw [hb]; simp
        obtain ⟨y, _, rfl⟩ := List.mem_map.1 this
        simp
      cases r with
      | nil => exact ha
      | cons b r => rw [joinT_cons]; simp
  have hlen : (joinT ((B vars).map (63 :: ·))).length < 4294967281 := by
    have := joinT_len 40 ((B vars).map (63 :: ·)) (by
      intro x hx
      obtain ⟨y, hy, rfl⟩ := List.mem_map.1 hx
      have := (okName_len (hnm y hy)).1
      simp
      omega)
    rw [List.length_map, B_len] at this
    omega
  simp only [if_neg hjn]
  rw [show (⟨#[9]⟩ : ByteArray) = ofL [9] from rfl, split_eq _ _ hlen, splitC_join _ hne (fun x hx => (hcl x hx).1)]
  simp only [Option.bind_some]
  exact names_ev _ vars hv _ hj vars [] rfl

/-! ### Get -/
theorem atoi_of (n : Nat) (h : n < 4096) : atoiV (ofL (dd n)) = (n : Int) ∧ atoiOk (ofL (dd n)) = true := by
  unfold atoiV atoiOk
  rw [ofL_toList, atoi_dd n h]
  exact ⟨rfl, rfl⟩
theorem lines_clean {a0 a1 : Int} {vars : List ByteArray} {rows : List (List S43)} {tr : Bool} {er : Int} (h : chk a0 a1 vars rows tr er = 0) : ∀ x ∈ linesOf a0.toNat a1 vars rows tr er.toNat, (10 : UInt8) ∉ x := by
  obtain ⟨p1, p2, hk⟩ := chk_zero h
  intro x hx
  unfold linesOf at hx
  rcases List.mem_cons.1 hx with rfl | hx
  · exact (dd_clean _ (by omega)).2
  rcases hk with ⟨k1, k2, k3, k4, k5⟩ | ⟨k1, k2, k3, k4⟩ | ⟨k1, k2, k3, k4, k5, k6⟩
  · rw [if_neg (by omega), if_neg (by omega)] at hx
    obtain ⟨v1, v2, v3⟩ := rightR_all k4
    rcases List.mem_cons.1 hx with rfl | hx
    · decide
    rcases List.mem_cons.1 hx with rfl | hx
    · refine noten_join _ ?_
      intro x hx
      obtain ⟨y, hy, rfl⟩ := List.mem_map.1 hx
      exact clean_cons (by decide) (by decide) (clean_name (v2 y hy))
    obtain ⟨row, hrow, rfl⟩ := List.mem_map.1 hx
    have hro := List.all_eq_true.1 v3 row hrow
    unfold rowOK at hro
    rw [Bool.and_eq_true] at hro
    refine noten_join _ ?_
    intro x hx
    obtain ⟨t, ht, rfl⟩ := List.mem_map.1 hx
    exact clean_text (cellOK_tm (List.all_eq_true.1 hro.2 t ht)).1
  · rw [if_pos k1] at hx
    rcases List.mem_cons.1 hx with rfl | hx
    · cases tr <;> decide
    cases hx
  rw [if_neg (by omega), if_pos k1] at hx
  rcases List.mem_cons.1 hx with rfl | hx
  · have := (dd_clean er.toNat (by omega)).2
    simp only [List.mem_append, not_or]
    exact ⟨by decide, this⟩
  cases hx
theorem get_ev {a0 a1 : Int} {vars : List ByteArray} {rows : List (List S43)} {tr : Bool} {er : Int} (h : chk a0 a1 vars rows tr er = 0) (hl : (bytesL a0.toNat a1 vars rows tr er.toNat).length ≤ 65536) :
    Ev (fun k => result_Get.f k (ofL (bytesL a0.toNat a1 vars rows tr er.toNat))) (a0, a1, vars, rows, tr, er, 0) := by
  obtain ⟨p1, p2, hk⟩ := chk_zero h
  have hrl : rows.length ≤ 9223372036854775807 := by
    rcases hk with hk | hk | hk
    · omega
    · rw [hk.2.2.1]; simp
    rw [hk.2.2.1]; simp
  have hput := put_ev a0 a1 vars rows hrl tr er
  rw [if_pos h, finL, if_neg (by omega)] at hput
  have hsp := split_eq (bytesL a0.toNat a1 vars rows tr er.toNat) 10 (by omega)
  rw [show splitC 10 (bytesL a0.toNat a1 vars rows tr er.toNat) = linesOf a0.toNat a1 vars rows tr er.toNat ++ [[]] from splitC_unl _ (lines_clean h), show ofL [10] = (⟨#[10]⟩ : ByteArray) from rfl] at hsp
  have hll : 2 ≤ (linesOf a0.toNat a1 vars rows tr er.toNat).length ∧ (linesOf a0.toNat a1 vars rows tr er.toNat).length ≤ 4611686018427387900 := by
    unfold linesOf
    split
    · simp
    split
    · simp
    simp only [List.length_cons, List.length_map]; omega
  unfold result_Get.f
  rw [ofL_size]
  simp only [if_neg (show ¬ (((bytesL a0.toNat a1 vars rows tr er.toNat).length : Int) > 65536) by omega), hsp, Option.bind_some]
  have e1 : ((linesOf a0.toNat a1 vars rows tr er.toNat ++ [[]]).map ofL).length = (linesOf a0.toNat a1 vars rows tr er.toNat).length + 1 := by simp
  have e2 : rdOf ByteArray.empty ((linesOf a0.toNat a1 vars rows tr er.toNat ++ [[]]).map ofL) ((((linesOf a0.toNat a1 vars rows tr er.toNat).length + 1 : Nat) : Int) - 1) = ofL [] := by
    unfold rdOf
    rw [show ((((linesOf a0.toNat a1 vars rows tr er.toNat).length + 1 : Nat) : Int) - 1).toNat = (linesOf a0.toNat a1 vars rows tr er.toNat).length by omega, List.getD_eq_getElem?_getD, List.getElem?_map, List.getElem?_append_right (Nat.le_refl _)]
    simp
  have e3 : ((linesOf a0.toNat a1 vars rows tr er.toNat ++ [[]]).map ofL).take ((linesOf a0.toNat a1 vars rows tr er.toNat).length + 1 - 1) = (linesOf a0.toNat a1 vars rows tr er.toNat).map ofL := by
    rw [List.map_append, Nat.add_sub_cancel, List.take_left' (by rw [List.length_map])]
  rw [e1]
  simp only [if_pos (show (linesOf a0.toNat a1 vars rows tr er.toNat).length + 1 < 4611686018427387904 by omega), if_neg (show ¬ ((((linesOf a0.toNat a1 vars rows tr er.toNat).length + 1 : Nat) : Int) < 3) by omega), e2, e3, tl, ofL_toList, if_true]
  unfold getRest
  have r0 : rdOf ByteArray.empty ((linesOf a0.toNat a1 vars rows tr er.toNat).map ofL) 0 = ofL (dd a0.toNat) := rfl
  obtain ⟨at1, at2⟩ := atoi_of a0.toNat (by omega)
  have dl := dd_len a0.toNat
  rw [r0, at1, at2]
  simp only [if_pos (show (ofL (dd a0.toNat)).size ≤ 281474976710656 by rw [ofL_size]; omega)]
  rw [show ((a0.toNat : Nat) : Int) = a0 by omega]
  have fin : ∀ (w : Int × List ByteArray × List (List S43) × Bool × Int × Bool), w = (a1, vars, rows, tr, er, true) →
      Ev (fun k => (result_Put.f k a0 w.1 w.2.1 w.2.2.1 w.2.2.2.1 w.2.2.2.2.1).bind fun y => if w.2.2.2.2.2 = true ∧ y.2 = 0 ∧ y.1.toList = (ofL (bytesL a0.toNat a1 vars rows tr er.toNat)).toList then some (a0, w.1, w.2.1, w.2.2.1, w.2.2.2.1, w.2.2.2.2.1, (0 : Int)) else some (0, 0, [], [], false, 0, 2)) (a0, a1, vars, rows, tr, er, 0) := by
    rintro w rfl
    refine Ev.bind hput ?_
    exact Ev.congr (fun k => if_pos ⟨rfl, rfl, rfl⟩) (Ev.now _)
  rcases hk with ⟨k1, k2, k3, k4, k5⟩ | ⟨k1, k2, k3, k4⟩ | ⟨k1, k2, k3, k4, k5, k6⟩
  · obtain ⟨v1, v2, v3⟩ := rightR_all k4
    have el : linesOf a0.toNat a1 vars rows tr er.toNat = dd a0.toNat :: [114, 111, 119, 115] :: (joinT ((B vars).map (63 :: ·)) :: rows.map rowL) := by
      unfold linesOf; rw [if_neg (by omega), if_neg (by omega)]
    refine Ev.bind (a := (a1, vars, rows, tr, er, true)) ?_ (fin _ rfl)
    rw [el]
    unfold getMid
    have r1 : rdOf ByteArray.empty ((dd a0.toNat :: [114, 111, 119, 115] :: (joinT ((B vars).map (63 :: ·)) :: rows.map rowL)).map ofL) 1 = ofL [114, 111, 119, 115] := rfl
    have r2 : ((dd a0.toNat :: [114, 111, 119, 115] :: (joinT ((B vars).map (63 :: ·)) :: rows.map rowL)).map ofL).drop 2 = (joinT ((B vars).map (63 :: ·)) :: rows.map rowL).map ofL := rfl
    rw [r1, r2]
    simp only [tl, ofL_toList, if_true]
    refine Ev.bind (rows_ev vars v1 v2 rows k5 v3) ?_
    simp only [Bool.and_self]
    rw [k1, k2, k3]
    exact Ev.now _
  · have el : linesOf a0.toNat a1 vars rows tr er.toNat = [dd a0.toNat, if tr then [116, 114, 117, 101] else [102, 97, 108, 115, 101]] := by
      unfold linesOf; rw [if_pos k1]
    refine Ev.bind (a := (a1, vars, rows, tr, er, true)) ?_ (fin _ rfl)
    rw [el]
    unfold getMid
    have r1 : rdOf ByteArray.empty ([dd a0.toNat, if tr then [116, 114, 117, 101] else [102, 97, 108, 115, 101]].map ofL) 1 = ofL (if tr then [116, 114, 117, 101] else [102, 97, 108, 115, 101]) := rfl
    rw [r1]
    simp only [tl, ofL_toList]
    subst k1 k2 k3 k4
    cases tr with
    | true =>
      simp only [if_true]
      exact Ev.congr (fun k => (if_neg (by decide)).trans (if_neg (by decide))) (Ev.now _)
    | false =>
      simp only [Bool.false_eq_true, if_false]
      exact Ev.congr (fun k => (if_neg (by decide)).trans (if_neg (by decide))) (Ev.now _)
  have el : linesOf a0.toNat a1 vars rows tr er.toNat = [dd a0.toNat, [101, 114, 114, 111, 114, 32] ++ dd er.toNat] := by
    unfold linesOf; rw [if_neg (by omega), if_pos k1]
  refine Ev.bind (a := (a1, vars, rows, tr, er, true)) ?_ (fin _ rfl)
  rw [el]
  unfold getMid
  have r1 : rdOf ByteArray.empty ([dd a0.toNat, [101, 114, 114, 111, 114, 32] ++ dd er.toNat].map ofL) 1 = ofL ([101, 114, 114, 111, 114, 32] ++ dd er.toNat) := rfl
  rw [r1]
  simp only [tl, ofL_toList]
  obtain ⟨bt1, bt2⟩ := atoi_of er.toNat (by omega)
  have hp : Lib.hasPrefix ([101, 114, 114, 111, 114, 32] ++ dd er.toNat) [101, 114, 114, 111, 114, 32] = true := by
    simp [Lib.hasPrefix, List.isPrefixOf]
  have hx : (ofL ([101, 114, 114, 111, 114, 32] ++ dd er.toNat)).extract 6 (ofL ([101, 114, 114, 111, 114, 32] ++ dd er.toNat)).size = ofL (dd er.toNat) := by
    rw [ext_end, ofL_toList]; rfl
  have dl2 := dd_len er.toNat
  simp only [hx, bt1, bt2, hp, if_true]
  rw [show ((er.toNat : Nat) : Int) = er by omega]
  subst k1 k2 k3 k4
  exact Ev.congr (fun k => (if_neg (by simp)).trans (if_pos ⟨by rw [ofL_size]; simp, by rw [ofL_size]; omega⟩)) (Ev.now _)
/-- the program answers -/
theorem awake_ev : Ev (fun k => legationlaw17_awake.f k) true := by
  have hc : chk 7 1 [ofL [120], ofL [121]] [[⟨1, ofL [97], ofL [], ofL []⟩, ⟨0, ofL [], ofL [], ofL []⟩]] false 0 = 0 := by decide +kernel
  have hb : bytesL (7 : Int).toNat 1 [ofL [120], ofL [121]] [[⟨1, ofL [97], ofL [], ofL []⟩, ⟨0, ofL [], ofL [], ofL []⟩]] false (0 : Int).toNat = [55, 10, 114, 111, 119, 115, 10, 63, 120, 9, 63, 121, 10, 60, 97, 62, 9, 10] := by decide +kernel
  have h := get_ev hc (by rw [hb]; decide)
  rw [hb] at h
  unfold legationlaw17_awake.f
  refine Ev.bind h ?_
  refine Ev.congr (f := fun _ => some true) (fun k => ?_) (Ev.now _)
  simp only [tl]
  rfl
end Go.Proofs.YtgabadlneeffkaaDoor.S
