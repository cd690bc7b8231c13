/- Plain lists of bytes: what the percent texts, splits and digits are, and their laws. No program stands in it. -/
import Derived.Lib.Split
import Derived.Lib.ItoaNum
import Derived.Lib.AtoiAll
import Derived.Lib.Join
import Derived.Lib.IndexMore
import Derived.Laws.BytesArg
namespace Go.Proofs.YtgabadlneeffkaaGreatDoor

def nat (l : List UInt8) : List Int := l.map fun b => (b.toNat : Int)
def ofL (l : List UInt8) : ByteArray := ⟨l.toArray⟩
theorem nat_append (a b : List UInt8) : nat (a ++ b) = nat a ++ nat b := by simp [nat]
theorem nat_length (a : List UInt8) : (nat a).length = a.length := by simp [nat]
theorem ofL_toList (l : List UInt8) : (ofL l).data.toList = l := rfl
theorem ofL_size (l : List UInt8) : (ofL l).size = l.length := by simp [ofL, ByteArray.size]
theorem ofL_data (s : ByteArray) : ofL s.data.toList = s := by cases s; simp [ofL]
theorem ofL_append (a b : List UInt8) : ofL a ++ ofL b = ofL (a ++ b) := by
  show ByteArray.append _ _ = _
  simp [ofL, ByteArray.append_eq, ByteArray.ext_iff]
theorem size_toList (s : ByteArray) : s.data.toList.length = s.size := by rw [Array.length_toList]; rfl
theorem strOfNums_nat (l : List UInt8) : strOfNums (nat l) = ofL l := by
  simp [strOfNums, nat, ofL, Function.comp_def]
/-! ### percent -/
def plain (b : UInt8) : Bool :=
  (decide (97 ≤ b.toNat) && decide (b.toNat ≤ 122)) || (decide (65 ≤ b.toNat) && decide (b.toNat ≤ 90)) || (decide (48 ≤ b.toNat) && decide (b.toNat ≤ 57)) || b.toNat == 45 || b.toNat == 95 || b.toNat == 46 || b.toNat == 126
def hexd (n : Nat) : UInt8 := if n < 10 then UInt8.ofNat (48 + n) else UInt8.ofNat (55 + n)
def encB (b : UInt8) : List UInt8 := if plain b then [b] else [37, hexd (b.toNat / 16), hexd (b.toNat % 16)]
def enc (l : List UInt8) : List UInt8 := l.flatMap encB
theorem forall_byte {P : UInt8 → Prop} (h : ∀ n : Fin 256, P (UInt8.ofNat n.val)) (b : UInt8) : P b := by
  have := h ⟨b.toNat, b.toNat_lt⟩
  simpa using this
/-! ### texts parted at a byte -/
def splitC (c : UInt8) : List UInt8 → List (List UInt8)
  | [] => [[]]
  | b :: r => if b = c then [] :: splitC c r else match splitC c r with
    | h :: t => (b :: h) :: t
    | [] => [[b]]
/-- a piece without the byte, then the byte, then the rest -/
theorem splitC_hit (c : UInt8) : ∀ (p r : List UInt8), c ∉ p → splitC c (p ++ c :: r) = p :: splitC c r
  | [], r, _ => by simp [splitC]
  | b :: p, r, h => by
    simp only [List.mem_cons, not_or] at h
    rw [List.cons_append, splitC, if_neg (fun e => h.1 e.symm), splitC_hit c p r h.2]
theorem splitC_miss (c : UInt8) : ∀ (p : List UInt8), c ∉ p → splitC c p = [p]
  | [], _ => rfl
  | b :: p, h => by
    simp only [List.mem_cons, not_or] at h
    rw [splitC, if_neg (fun e => h.1 e.symm), splitC_miss c p h.2]
/-- a text up to the byte, and what is behind it -/
def cutC (c : UInt8) : List UInt8 → Option (List UInt8 × List UInt8)
  | [] => none
  | b :: r => if b = c then some ([], r) else (cutC c r).map fun x => (b :: x.1, x.2)
theorem cutC_some {c : UInt8} : ∀ {l p r : List UInt8}, cutC c l = some (p, r) → l = p ++ c :: r ∧ c ∉ p
  | [], p, r, h => by simp [cutC] at h
  | b :: l, p, r, h => by
    unfold cutC at h
    by_cases e : b = c
    · rw [if_pos e] at h
      simp only [Option.some.injEq, Prod.mk.injEq] at h
      obtain ⟨rfl, rfl⟩ := h
      simp [e]
    rw [if_neg e] at h
    obtain ⟨x, hx, he⟩ := Option.map_eq_some_iff.1 h
    simp only [Prod.mk.injEq] at he
    obtain ⟨rfl, rfl⟩ := he
    obtain ⟨h1, h2⟩ := cutC_some (show cutC c l = some (x.1, x.2) from hx)
    exact ⟨by rw [h1]; rfl, by simp only [List.mem_cons, not_or]; exact ⟨fun q => e q.symm, h2⟩⟩
theorem cutC_none {c : UInt8} : ∀ {l : List UInt8}, cutC c l = none ↔ c ∉ l
  | [] => by simp [cutC]
  | b :: l => by
    unfold cutC
    by_cases e : b = c
    · simp [e]
    simp [e, cutC_none (l := l), Ne.symm e]
theorem splitC_cut (c : UInt8) (l : List UInt8) : splitC c l = match cutC c l with
    | some (p, r) => p :: splitC c r
    | none => [l] := by
  cases h : cutC c l with
  | none => exact splitC_miss c l (cutC_none.1 h)
  | some x =>
    obtain ⟨h1, h2⟩ := cutC_some (show cutC c l = some (x.1, x.2) from h)
    simp only
    conv => lhs; rw [h1]
    exact splitC_hit c _ _ h2
end Go.Proofs.YtgabadlneeffkaaGreatDoor
