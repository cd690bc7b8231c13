/- The library's words (strings.Split, Cut, Join, strconv.Itoa, Atoi) as the plain lists of bytes that Sp.lean speaks of. -/
import Derived.Test.YtgabadlneeffkaaGreatDoorESp
import Derived.Lib.IndexBytes
import Derived.Lib.CountLaws
import Derived.Lib.SplitLaws
import Derived.Lib.CutLaws
import Derived.Lib.AtoiAllCases
namespace Go.Proofs.YtgabadlneeffkaaGreatDoor
open Go.Lib

theorem cutC_index (c : UInt8) : ∀ l : List UInt8, (indexByte l c = -1 ∧ cutC c l = none) ∨ ∃ i : Nat, indexByte l c = i ∧ i < l.length ∧ cutC c l = some (l.take i, l.drop (i + 1))
  | [] => .inl ⟨rfl, rfl⟩
  | b :: l => by
    unfold indexByte cutC
    by_cases e : b = c
    · right
      refine ⟨0, ?_, by simp, ?_⟩
      · rw [if_pos (beq_iff_eq.2 e)]; rfl
      rw [if_pos e]; simp
    have hb : ¬ (b == c) = true := fun h => e (beq_iff_eq.1 h)
    rw [if_neg hb, if_neg e]
    rcases cutC_index c l with ⟨h1, h2⟩ | ⟨i, h1, h2, h3⟩
    · left
      rw [h1, h2]
      exact ⟨rfl, rfl⟩
    right
    refine ⟨i + 1, ?_, by simpa using h2, ?_⟩
    · rw [h1, if_neg (by intro h; have := beq_iff_eq.1 h; omega)]; omega
    rw [h3]; simp

theorem splitK_eq (c : UInt8) : ∀ (k : Nat) (l : List UInt8), l.count c = k → splitK [c] 0 k l = splitC c l
  | 0, l, h => by
    have : c ∉ l := List.count_eq_zero.1 h
    rw [splitC_miss c l this]
    rfl
  | k + 1, l, h => by
    rw [splitK, index_one, splitC_cut]
    rcases cutC_index c l with ⟨h1, h2⟩ | ⟨i, h1, h2, h3⟩
    · have := cutC_none.1 h2
      rw [List.count_eq_zero.2 this] at h
      cases h
    obtain ⟨e1, e2⟩ := cutC_some h3
    have hc : (l.drop (i + 1)).count c = k := by
      have h4 := h
      rw [e1, List.count_append, List.count_cons_self, List.count_eq_zero.2 e2] at h4
      omega
    rw [h1, h3, if_neg (by intro h; have := beq_iff_eq.1 h; omega)]
    simp only [List.length_singleton, Int.toNat_natCast, Nat.add_zero]
    rw [splitK_eq c k _ hc]

theorem countB_one (s : ByteArray) (c : UInt8) : countB s (ofL [c]) = s.data.toList.count c := by
  generalize hn : s.size = n
  induction n using Nat.strongRecOn generalizing s with
  | _ n ih =>
    have hi : indexB s (ofL [c]) = indexByte s.data.toList c := by
      show index _ _ = _
      rw [← index_one]
      rfl
    rcases cutC_index c s.data.toList with ⟨h1, h2⟩ | ⟨i, h1, h2, h3⟩
    · rw [countB_miss _ _ (hi.trans h1), List.count_eq_zero.2 (cutC_none.1 h2)]
    rw [countB_hit s _ i (by simp [ofL_size]) (hi.trans h1)]
    obtain ⟨e1, e2⟩ := cutC_some h3
    have hx : (s.extract (i + (ofL [c]).size) s.size).data.toList = s.data.toList.drop (i + 1) := by
      rw [extract_data]
      rw [ofL_size, List.length_singleton]
      apply List.take_of_length_le
      rw [List.length_drop, size_toList]
      omega
    have hl : (s.extract (i + (ofL [c]).size) s.size).size < n := by
      rw [← size_toList, hx, List.length_drop, size_toList]
      rw [size_toList] at h2
      omega
    rw [ih _ hl _ rfl, hx]
    conv => rhs; rw [e1]
    rw [List.count_append, List.count_cons_self, List.count_eq_zero.2 e2]
    omega

theorem splitB_eq (s : ByteArray) (c : UInt8) : splitB (ofL [c]) 0 (countB s (ofL [c])) s = (splitC c s.data.toList).map ofL := by
  have h := splitB_data (ofL [c]) 0 (countB s (ofL [c])) s
  rw [countB_one] at h ⊢
  rw [show (ofL [c]).data.toList = [c] from rfl, splitK_eq c _ _ rfl] at h
  rw [← h, List.map_map]
  symm
  conv => rhs; rw [← List.map_id (splitB (ofL [c]) 0 (List.count c s.data.toList) s)]
  apply List.map_congr_left
  intro x _
  exact ofL_data x

/-! ### digits -/
def dd (n : Nat) : List UInt8 :=
  if n < 10 then [UInt8.ofNat (48 + n)]
  else if n < 100 then [UInt8.ofNat (48 + n / 10), UInt8.ofNat (48 + n % 10)]
  else if n < 1000 then [UInt8.ofNat (48 + n / 100), UInt8.ofNat (48 + n / 10 % 10), UInt8.ofNat (48 + n % 10)]
  else [UInt8.ofNat (48 + n / 1000), UInt8.ofNat (48 + n / 100 % 10), UInt8.ofNat (48 + n / 10 % 10), UInt8.ofNat (48 + n % 10)]
theorem decDigits_dd (n : Nat) (h : n < 10000) : decDigits n = dd n := by
  unfold dd
  by_cases h1 : n < 10
  · rw [if_pos h1, decDigits, dif_pos h1]
  rw [if_neg h1, decDigits, dif_neg h1]
  by_cases h2 : n < 100
  · rw [if_pos h2, decDigits, dif_pos (by omega)]; rfl
  rw [if_neg h2, decDigits, dif_neg (by omega)]
  by_cases h3 : n < 1000
  · rw [if_pos h3, decDigits, dif_pos (by omega), Nat.div_div_eq_div_mul]; rfl
  rw [if_neg h3, decDigits, dif_neg (by omega), decDigits, dif_pos (by omega)]
  have e1 : n / 10 / 10 / 10 = n / 1000 := by omega
  have e2 : n / 10 / 10 = n / 100 := by omega
  rw [e1, e2]; rfl
theorem itoa_dd (n : Nat) (h : n < 10000) : itoa (n : Int) = dd n := by
  unfold itoa
  rw [if_neg (by omega), Int.toNat_natCast, decDigits_dd n h]
def isOk (x : NumEnd Int) (n : Nat) : Bool := match x with | .ok v => v == (n : Int) | _ => false
theorem atoi_dd (n : Nat) (h : n < 4096) : atoiAll (dd n) = .ok (n : Int) := by
  have key : ∀ a b : Fin 64, isOk (atoiAll (dd (64 * a.val + b.val))) (64 * a.val + b.val) = true := by decide +kernel
  have := key ⟨n / 64, by omega⟩ ⟨n % 64, by omega⟩
  simp only at this
  rw [show 64 * (n / 64) + n % 64 = n by omega] at this
  unfold isOk at this
  split at this
  · rename_i v e
    rw [e, beq_iff_eq.1 this]
  cases this
end Go.Proofs.YtgabadlneeffkaaGreatDoor
