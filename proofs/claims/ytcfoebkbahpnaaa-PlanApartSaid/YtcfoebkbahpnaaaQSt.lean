/- Plain terms and their texts: what is right, what is written, what is read, and that what is written reads back. No program stands in it. -/
import Derived.Test.YtcfoebkbahpnaaaQSq
namespace Go.Proofs.Ytcfoebkbahpnaaa

def isLet (b : UInt8) : Bool := (decide (97 ≤ b.toNat) && decide (b.toNat ≤ 122)) || (decide (65 ≤ b.toNat) && decide (b.toNat ≤ 90))
def isDig (b : UInt8) : Bool := decide (48 ≤ b.toNat) && decide (b.toNat ≤ 57)
def nameB (b : UInt8) : Bool := isLet b || isDig b || b.toNat == 95
def iriC (b : UInt8) : Bool := decide (33 ≤ b.toNat) && decide (b.toNat ≤ 126) && !([60, 62, 34, 123, 125, 124, 94, 96, 92].contains b.toNat)
def textB (b : UInt8) : Bool := (decide (32 ≤ b.toNat) && decide (b.toNat ≤ 126)) || b.toNat == 10 || b.toNat == 9
def langB (b : UInt8) : Bool := decide (97 ≤ b.toNat) && decide (b.toNat ≤ 122)
def okName : List UInt8 → Bool
  | [] => false
  | c :: r => isLet c && r.all nameB && decide (r.length ≤ 31)
def okIri (l : List UInt8) : Bool := !l.isEmpty && decide (l.length ≤ 4096) && l.all iriC
def okText (l : List UInt8) : Bool := decide (l.length ≤ 4096) && l.all textB
def okLang (l : List UInt8) : Bool := !l.isEmpty && decide (l.length ≤ 8) && l.all langB
/-- a term: its kind, its text, its type, its language -/
structure Tm where
  k : Int
  x : List UInt8
  ty : List UInt8
  la : List UInt8
deriving DecidableEq
def okTm (t : Tm) : Bool :=
  if t.k = 2 then okText t.x && (t.ty.isEmpty || okIri t.ty) && (t.la.isEmpty || (t.ty.isEmpty && okLang t.la))
  else t.ty.isEmpty && t.la.isEmpty && (if t.k = 0 then t.x.isEmpty else if t.k = 1 then okIri t.x else if t.k = 3 ∨ t.k = 4 then okName t.x else false)

/-! ### writing -/
/-! ### reading -/
def nameN : List UInt8 → Nat
  | [] => 0
  | c :: r => if isLet c then 1 + ((r.take 31).takeWhile nameB).length else 0
/-! ### what is written reads back -/
theorem okName_nameN {l : List UInt8} (h : okName l = true) : nameN l = l.length ∧ 0 < l.length := by
  unfold okName at h
  split at h
  · cases h
  rename_i c r
  simp only [Bool.and_eq_true, decide_eq_true_eq] at h
  rw [show nameN (c :: r) = if isLet c then 1 + ((r.take 31).takeWhile nameB).length else 0 from rfl, if_pos h.1.1, List.take_of_length_le h.2]
  have : r.takeWhile nameB = r := by
    have := h.1.2
    rw [List.all_eq_true] at this
    rw [← List.append_nil r, List.takeWhile_append_of_pos (by simpa using this)]
    simp
  rw [this, List.length_cons]
  omega
theorem takeWhile_all (p : UInt8 → Bool) : ∀ l : List UInt8, (l.takeWhile p).all p = true
  | [] => rfl
  | b :: l => by
    by_cases h : p b = true
    · rw [List.takeWhile_cons_of_pos h, List.all_cons, h, takeWhile_all p l]; rfl
    rw [List.takeWhile_cons_of_neg h]; rfl
theorem take_of_prefix {a l : List UInt8} (h : a <+: l) : l.take a.length = a := by
  obtain ⟨t, rfl⟩ := h
  simp
theorem nameN_ok {l : List UInt8} (h : 0 < nameN l) : okName (l.take (nameN l)) = true := by
  unfold nameN at h ⊢
  split
  · rename_i l0
    simp at h
  rename_i c r
  by_cases hc : isLet c = true
  · rw [if_pos hc, Nat.add_comm, List.take_succ_cons]
    have hp : (r.take 31).takeWhile nameB <+: r := (List.takeWhile_prefix nameB).trans (List.take_prefix 31 r)
    rw [take_of_prefix hp, okName, hc, takeWhile_all]
    have h1 := (List.takeWhile_prefix nameB (l := r.take 31)).length_le
    rw [List.length_take] at h1
    simp
    omega
  simp only at h
  rw [if_neg hc] at h
  omega
theorem isEmpty_nil {l : List UInt8} (h : l.isEmpty = true) : l = [] := List.isEmpty_iff.1 h
end Go.Proofs.Ytcfoebkbahpnaaa
