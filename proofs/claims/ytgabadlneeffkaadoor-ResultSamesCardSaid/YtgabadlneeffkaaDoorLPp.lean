/- What result.Put comes to: the bytes of a reply. -/
import Derived.Test.YtgabadlneeffkaaDoorLPt
namespace Go.Proofs.YtgabadlneeffkaaDoor.S
open Go.RowKit Go.Lib Go.Proofs.YtgabadlneeffkaaDoor Go.Proofs.YtgabadlneeffkaaDoorW.PrintWords Go.Proofs.YtgabadlneeffkaaDoorW.PrintLast
set_option linter.unusedVariables false
set_option linter.unusedSimpArgs false

def joinT : List (List UInt8) → List UInt8
  | [] => []
  | [a] => a
  | a :: b :: r => a ++ 9 :: joinT (b :: r)
theorem joinT_cons (a b : List UInt8) (r : List (List UInt8)) : joinT (a :: b :: r) = a ++ 9 :: joinT (b :: r) := rfl
theorem join_joinT : ∀ l : List (List UInt8), Lib.join l [9] = joinT l
  | [] => rfl
  | [a] => by simp [Lib.join, List.intercalate, joinT]
  | a :: b :: r => by
    have ih := join_joinT (b :: r)
    rw [joinT_cons, ← ih]
    simp [Lib.join, List.intercalate]
theorem joinT_len (M : Nat) : ∀ l : List (List UInt8), (∀ x ∈ l, x.length ≤ M) → (joinT l).length ≤ l.length * (M + 1)
  | [], _ => by simp [joinT]
  | [a], h => by have := h a (by simp); simp [joinT]; omega
  | a :: b :: r, h => by
    have ih := joinT_len M (b :: r) (fun x hx => h x (List.mem_cons_of_mem _ hx))
    have := h a (by simp)
    rw [joinT_cons, List.length_append, List.length_cons]
    rw [show (a :: b :: r).length = (b :: r).length + 1 from rfl, Nat.add_mul]
    omega
def unl (ls : List (List UInt8)) : List UInt8 := ls.flatMap (· ++ [10])
theorem unl_cons (a : List UInt8) (r : List (List UInt8)) : unl (a :: r) = a ++ 10 :: unl r := by simp [unl]
theorem unl_nil : unl [] = [] := rfl
def rowL (row : List S43) : List UInt8 := joinT (row.map fun t => ttext (T t))
def linesOf (id : Nat) (kind : Int) (vars : List ByteArray) (rows : List (List S43)) (tr : Bool) (er : Nat) : List (List UInt8) :=
  dd id :: (if kind = 2 then [if tr then [116, 114, 117, 101] else [102, 97, 108, 115, 101]] else if kind = 3 then [[101, 114, 114, 111, 114, 32] ++ dd er]
    else [114, 111, 119, 115] :: joinT ((B vars).map (63 :: ·)) :: rows.map rowL)
def bytesL (id : Nat) (kind : Int) (vars : List ByteArray) (rows : List (List S43)) (tr : Bool) (er : Nat) : List UInt8 := unl (linesOf id kind vars rows tr er)
def finL (l : List UInt8) : ByteArray × Int := if l.length > 65536 then (⟨#[]⟩, 3) else (ofL l, 0)
theorem finP_eq (out : ByteArray) : finP out = some (finL out.data.toList) := by
  unfold finP finL
  rw [size_toList]
  by_cases h : out.size > 65536
  · rw [if_pos (by omega), if_pos h]
  rw [if_neg (by omega), if_neg h, ofL_data]
theorem cellsT_eq (xs : List ByteArray) (h1 : xs.length ≤ 32) (h2 : ∀ x ∈ xs, x.size ≤ 20001) : cellsT xs = some (ofL (joinT (B xs) ++ [10])) ∧ (joinT (B xs)).length ≤ 700000 := by
  have hl : (joinT (B xs)).length ≤ 32 * 20002 := by
    have := joinT_len 20001 (B xs) (by
      intro x hx
      obtain ⟨y, hy, rfl⟩ := List.mem_map.1 hx
      rw [size_toList]
      exact h2 y hy)
    rw [B_len] at this
    exact Nat.le_trans this (Nat.mul_le_mul_right _ h1)
  refine ⟨?_, by omega⟩
  unfold cellsT strings_Join.f
  rw [show xs.map (·.data.toList) = B xs from rfl, show (⟨#[9]⟩ : ByteArray).data.toList = [9] from rfl, join_joinT, if_pos ⟨by omega, by omega⟩, Option.bind_some]
  have e : (⟨(joinT (B xs)).toArray⟩ : ByteArray) = ofL (joinT (B xs)) := rfl
  rw [e, if_pos (by rw [ofL_size]; omega), show (⟨#[10]⟩ : ByteArray) = ofL [10] from rfl, ofL_append]
theorem cellOK_tm {t : S43} (h : cellOK t = true) : okTm (T t) = true ∧ t.f0 ≠ 4 := by
  unfold cellOK at h
  simp only [Bool.and_eq_true, Bool.not_eq_true', beq_eq_false_iff_ne] at h
  exact ⟨h.2, h.1⟩
theorem rowTexts_ev : ∀ row : List S43, row.all cellOK = true → Ev (fun k => rowTexts k row) (row.map fun t => ofL (ttext (T t)))
  | [], _ => Ev.now _
  | t :: r, h => by
    rw [List.all_cons, Bool.and_eq_true] at h
    have ht := (cellOK_tm h.1).1
    simp only [rowTexts]
    refine Ev.bind (text_ev t.f0 t.f1 t.f2 t.f3 ht) ?_
    refine Ev.bind (rowTexts_ev r h.2) ?_
    exact Ev.now _
theorem B_ofL (l : List (List UInt8)) : B (l.map ofL) = l := by
  unfold B
  rw [List.map_map]
  conv => rhs; rw [← List.map_id l]
  exact List.map_congr_left (fun x _ => ofL_toList x)
theorem rowsP_ev (n : Nat) (hn : n ≤ 32) : ∀ (rows : List (List S43)) (out : ByteArray), rows.all (rowOK n) = true → out.size ≤ 2000000 →
    Ev (fun k => rowsP k rows out) (finL (out.data.toList ++ unl (rows.map rowL)))
  | [], out, _, _ => by
    simp only [rowsP, List.map_nil, unl_nil, List.append_nil]
    rw [finP_eq]
    exact Ev.now _
  | row :: rs, out, h, ho => by
    rw [List.all_cons, Bool.and_eq_true] at h
    obtain ⟨h1, h2⟩ := h
    unfold rowOK at h1
    rw [Bool.and_eq_true, beq_iff_eq] at h1
    obtain ⟨hl, hc⟩ := h1
    simp only [rowsP, if_pos (show row.length < 8796093022208 by omega)]
    refine Ev.bind (rowTexts_ev row hc) ?_
    obtain ⟨c1, c2⟩ := cellsT_eq (row.map fun t => ofL (ttext (T t))) (by rw [List.length_map]; omega) (by
      intro x hx
      obtain ⟨t, ht, rfl⟩ := List.mem_map.1 hx
      rw [ofL_size]
      have := ttext_len (cellOK_tm (List.all_eq_true.1 hc t ht)).1
      omega)
    have e : B (row.map fun t => ofL (ttext (T t))) = row.map fun t => ttext (T t) := by
      have := B_ofL (row.map fun t => ttext (T t))
      rwa [List.map_map] at this
    rw [e] at c1 c2
    rw [show joinT (row.map fun t => ttext (T t)) = rowL row from rfl] at c1 c2
    simp only [c1, Option.bind_some]
    have hz : (out ++ ofL (rowL row ++ [10])).size = out.size + (rowL row ++ [10]).length := by rw [ByteArray.size_append, ofL_size]
    have hd : (out ++ ofL (rowL row ++ [10])).data.toList = out.data.toList ++ (rowL row ++ [10]) := by rw [app_data, ofL_toList]
    have hl2 : (rowL row ++ [10]).length ≤ 700001 := by rw [List.length_append]; simp; omega
    simp only [if_pos (show out.size + (ofL (rowL row ++ [10])).size ≤ 9223372036854775807 by rw [ofL_size]; omega), hz]
    have et : out.data.toList ++ unl ((row :: rs).map rowL) = (out ++ ofL (rowL row ++ [10])).data.toList ++ unl (rs.map rowL) := by
      rw [hd, List.map_cons, unl_cons]
      simp
    rw [et]
    by_cases hb : out.size + (rowL row ++ [10]).length > 65536
    · simp only [if_pos (show ((out.size + (rowL row ++ [10]).length : Nat) : Int) > 65536 by omega)]
      rw [finL, if_pos (by rw [List.length_append, hd, List.length_append, size_toList]; omega)]
      exact Ev.now _
    simp only [if_neg (show ¬ (((out.size + (rowL row ++ [10]).length : Nat) : Int) > 65536) by omega)]
    exact rowsP_ev n hn rs _ h2 (by rw [hz]; omega)
theorem nmOK_all : ∀ (l p : List (List UInt8)), nmOK p l = true → ∀ x ∈ l, okName x = true
  | [], _, _, x, hx => by cases hx
  | v :: r, p, h, x, hx => by
    unfold nmOK at h
    simp only [Bool.and_eq_true] at h
    rcases List.mem_cons.1 hx with rfl | hx
    · exact h.1.1
    exact nmOK_all r _ h.2 x hx
theorem rightR_all {vars : List ByteArray} {rows : List (List S43)} (h : rightR vars rows = true) : vars.length ≤ 32 ∧ (∀ x ∈ B vars, okName x = true) ∧ rows.all (rowOK vars.length) = true := by
  unfold rightR at h
  rw [Bool.and_eq_true] at h
  obtain ⟨h1, h2⟩ := h
  unfold tabOK at h1
  simp only [Bool.and_eq_true, decide_eq_true_eq] at h1
  refine ⟨h1.1.1.1, nmOK_all _ _ h1.1.2, ?_⟩
  rw [List.all_eq_true] at h2 ⊢
  intro r hr
  have := h2 r hr
  unfold tabOK at this
  simp only [Bool.and_eq_true, List.all_cons] at this
  exact this.2.1
/-- what a reply that is right is -/
theorem chk_zero {a0 a1 : Int} {vars : List ByteArray} {rows : List (List S43)} {tr : Bool} {er : Int} (h : chk a0 a1 vars rows tr er = 0) :
    0 ≤ a0 ∧ a0 < 4096 ∧ ((a1 = 1 ∧ tr = false ∧ er = 0 ∧ rightR vars rows = true ∧ rows.length ≤ 1024) ∨ (a1 = 2 ∧ vars = [] ∧ rows = [] ∧ er = 0) ∨ (a1 = 3 ∧ vars = [] ∧ rows = [] ∧ tr = false ∧ 1 ≤ er ∧ er ≤ 9)) := by
  unfold chk at h
  by_cases hb : badR a0 a1 er
  · rw [if_pos hb] at h; cases h
  rw [if_neg hb] at h
  have hb2 : ¬ (a0 < 0 ∨ a0 ≥ 4096 ∨ a1 < 1 ∨ a1 > 3 ∨ (a1 = 3 ∧ (er < 1 ∨ er > 9))) := hb
  refine ⟨by omega, by omega, ?_⟩
  by_cases k1 : a1 = 1
  · rw [if_pos k1] at h
    by_cases h2 : tr = true ∨ ¬ er = 0 ∨ ¬ rightR vars rows = true
    · rw [if_pos h2] at h; cases h
    rw [if_neg h2] at h
    by_cases h3 : rows.length > 1024
    · rw [if_pos h3] at h; cases h
    simp only [not_or, Decidable.not_not, Bool.not_eq_true] at h2
    exact .inl ⟨k1, h2.1, h2.2.1, by simpa using h2.2.2, by omega⟩
  rw [if_neg k1] at h
  by_cases k2 : a1 = 2
  · rw [if_pos k2] at h
    by_cases h2 : vars.length = 0 ∧ rows.length = 0 ∧ er = 0
    · exact .inr (.inl ⟨k2, List.length_eq_zero_iff.1 h2.1, List.length_eq_zero_iff.1 h2.2.1, h2.2.2⟩)
    rw [if_neg h2] at h; cases h
  rw [if_neg k2] at h
  by_cases h2 : vars.length = 0 ∧ rows.length = 0 ∧ tr = false
  · exact .inr (.inr ⟨by omega, List.length_eq_zero_iff.1 h2.1, List.length_eq_zero_iff.1 h2.2.1, h2.2.2, by omega, by omega⟩)
  rw [if_neg h2] at h; cases h
theorem itB_dd (n : Int) (h0 : 0 ≤ n) (h : n < 4096) : itB n = ofL (dd n.toNat) := by
  unfold itB
  rw [show n = ((n.toNat : Nat) : Int) by omega, itoa_dd _ (by omega), Int.toNat_natCast]
  rfl
theorem dd_len (n : Nat) : (dd n).length ≤ 4 := by
  unfold dd
  repeat' split
  all_goals simp
theorem fbB_eq (b : Bool) : fbB b = ofL (if b then [116, 114, 117, 101] else [102, 97, 108, 115, 101]) := by
  have key : ∀ b : Bool, (fbB b).data.toList = (if b then [116, 114, 117, 101] else [102, 97, 108, 115, 101]) := by decide +kernel
  exact ba_ext (by rw [key, ofL_toList])
theorem put_ev (a0 a1 : Int) (vars : List ByteArray) (rows : List (List S43)) (hr : rows.length ≤ 9223372036854775807) (tr : Bool) (er : Int) :
    Ev (fun k => result_Put.f k a0 a1 vars rows tr er) (if chk a0 a1 vars rows tr er = 0 then finL (bytesL a0.toNat a1 vars rows tr er.toNat) else (⟨#[]⟩, chk a0 a1 vars rows tr er)) := by
  unfold result_Put.f
  refine Ev.bind (chk_ev a0 a1 vars rows hr tr er) ?_
  by_cases h0 : chk a0 a1 vars rows tr er = 0
  · simp only [if_pos h0]
    obtain ⟨p1, p2, hk⟩ := chk_zero h0
    have he : 0 ≤ er ∧ er ≤ 9 := by omega
    have d1 := itB_dd a0 p1 p2
    have d2 := itB_dd er he.1 (by omega)
    have l1 := dd_len a0.toNat
    have l2 := dd_len er.toNat
    have l3 : (if tr = true then ([116, 114, 117, 101] : List UInt8) else [102, 97, 108, 115, 101]).length ≤ 5 := by split <;> simp
    have hs : smallP a0 er tr := by
      refine ⟨p1, by omega, by omega, by omega, ?_, ?_, ?_⟩
      · rw [d1, ofL_size]; omega
      · rw [d2, ofL_size]; omega
      rw [fbB_eq, ofL_size]; omega
    simp only [if_pos hs]
    have hp : put0 a0 = ofL (dd a0.toNat ++ [10]) := by
      unfold put0
      rw [d1, show (⟨#[10]⟩ : ByteArray) = ofL [10] from rfl, ofL_append]
    rw [hp]
    rcases hk with ⟨k1, k2, k3, k4, k5⟩ | ⟨k1, k2, k3, k4⟩ | ⟨k1, k2, k3, k4, k5, k6⟩
    · subst k1
      simp only [if_neg (show ¬ ((1 : Int) = 2) by decide), if_neg (show ¬ ((1 : Int) = 3) by decide)]
      obtain ⟨v1, v2, v3⟩ := rightR_all k4
      have vz : ∀ t ∈ vars, t.size ≤ 32 := by
        intro t ht
        have := (okName_len (v2 _ (List.mem_map.2 ⟨t, ht, rfl⟩))).1
        rwa [size_toList] at this
      have hg : vars.length < 8796093022208 ∧ rows.length < 8796093022208 ∧ ∀ t ∈ vars, 1 + t.size ≤ 9223372036854775807 := ⟨by omega, by omega, fun t ht => by have := vz t ht; omega⟩
      simp only [if_pos hg]
      have hm : (vars.map fun t => (⟨#[63]⟩ : ByteArray) ++ t) = ((B vars).map (63 :: ·)).map ofL := by
        unfold B
        rw [List.map_map, List.map_map]
        apply List.map_congr_left
        intro t _
        show (⟨#[63]⟩ : ByteArray) ++ t = ofL (63 :: t.data.toList)
        exact ba_ext (by rw [app_data, ofL_toList]; rfl)
      obtain ⟨c1, c2⟩ := cellsT_eq (vars.map fun t => (⟨#[63]⟩ : ByteArray) ++ t) (by rw [List.length_map]; exact v1) (by
        intro x hx
        obtain ⟨t, ht, rfl⟩ := List.mem_map.1 hx
        rw [ByteArray.size_append, show (⟨#[63]⟩ : ByteArray).size = 1 from rfl]
        have := vz t ht
        omega)
      rw [hm, B_ofL] at c1 c2
      rw [hm]
      simp only [c1, Option.bind_some]
      simp only [if_pos (show 2000 + (ofL (joinT ((B vars).map (63 :: ·)) ++ [10])).size ≤ 9223372036854775807 by rw [ofL_size, List.length_append]; simp; omega)]
      have h := rowsP_ev vars.length v1 rows (ofL (dd a0.toNat ++ [10]) ++ ((⟨#[114, 111, 119, 115, 10]⟩ : ByteArray) ++ ofL (joinT ((B vars).map (63 :: ·)) ++ [10]))) v3 (by
        rw [ByteArray.size_append, ByteArray.size_append, ofL_size, ofL_size, show (⟨#[114, 111, 119, 115, 10]⟩ : ByteArray).size = 5 from rfl, List.length_append, List.length_append]
        simp
        omega)
      have e : (ofL (dd a0.toNat ++ [10]) ++ ((⟨#[114, 111, 119, 115, 10]⟩ : ByteArray) ++ ofL (joinT ((B vars).map (63 :: ·)) ++ [10]))).data.toList ++ unl (rows.map rowL) = bytesL a0.toNat 1 vars rows tr er.toNat := by
        unfold bytesL linesOf
        rw [if_neg (by decide), if_neg (by decide), unl_cons, unl_cons, unl_cons, app_data, app_data, ofL_toList, ofL_toList, show (⟨#[114, 111, 119, 115, 10]⟩ : ByteArray).data.toList = [114, 111, 119, 115, 10] from rfl]
        simp
      rw [e] at h
      exact h
    · subst k1
      simp only [if_true]
      have e : (ofL (dd a0.toNat ++ [10]) ++ (fbB tr ++ (⟨#[10]⟩ : ByteArray))).data.toList = bytesL a0.toNat 2 vars rows tr er.toNat := by
        unfold bytesL linesOf
        rw [if_pos rfl, unl_cons, unl_cons, unl_nil, app_data, app_data, ofL_toList, fbB_eq, ofL_toList, show (⟨#[10]⟩ : ByteArray).data.toList = [10] from rfl]
        simp
      rw [finP_eq, e]
      exact Ev.now _
    subst k1
    simp only [if_neg (show ¬ ((3 : Int) = 2) by decide), if_true]
    have e : (ofL (dd a0.toNat ++ [10]) ++ (((⟨#[101, 114, 114, 111, 114, 32]⟩ : ByteArray) ++ itB er) ++ (⟨#[10]⟩ : ByteArray))).data.toList = bytesL a0.toNat 3 vars rows tr er.toNat := by
      unfold bytesL linesOf
      rw [if_neg (by decide), if_pos rfl, unl_cons, unl_cons, unl_nil, app_data, app_data, app_data, ofL_toList, d2, ofL_toList, show (⟨#[10]⟩ : ByteArray).data.toList = [10] from rfl, show (⟨#[101, 114, 114, 111, 114, 32]⟩ : ByteArray).data.toList = [101, 114, 114, 111, 114, 32] from rfl]
      simp
    rw [finP_eq, e]
    exact Ev.now _
  simp only [if_neg h0]
  exact Ev.now _
end Go.Proofs.YtgabadlneeffkaaDoor.S
