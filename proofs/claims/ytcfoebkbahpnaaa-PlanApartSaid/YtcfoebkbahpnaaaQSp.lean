/- Plain lists of bytes: what the percent texts, splits and digits are, and their laws. No program stands in it. -/
import Derived.Lib.Split
import Derived.Lib.ItoaNum
import Derived.Lib.AtoiAll
import Derived.Lib.Join
import Derived.Lib.IndexMore
import Derived.Laws.BytesArg
namespace Go.Proofs.Ytcfoebkbahpnaaa

theorem size_toList (s : ByteArray) : s.data.toList.length = s.size := by rw [Array.length_toList]; rfl
/-! ### percent -/
def plain (b : UInt8) : Bool :=
  (decide (97 ≤ b.toNat) && decide (b.toNat ≤ 122)) || (decide (65 ≤ b.toNat) && decide (b.toNat ≤ 90)) || (decide (48 ≤ b.toNat) && decide (b.toNat ≤ 57)) || b.toNat == 45 || b.toNat == 95 || b.toNat == 46 || b.toNat == 126
def hexd (n : Nat) : UInt8 := if n < 10 then UInt8.ofNat (48 + n) else UInt8.ofNat (55 + n)
def encB (b : UInt8) : List UInt8 := if plain b then [b] else [37, hexd (b.toNat / 16), hexd (b.toNat % 16)]
def enc (l : List UInt8) : List UInt8 := l.flatMap encB
theorem forall_byte {P : UInt8 → Prop} (h : ∀ n : Fin 256, P (UInt8.ofNat n.val)) (b : UInt8) : P b := by
  have := h ⟨b.toNat, b.toNat_lt⟩
  simpa using this
/-! ### texts parted at a byte -/
end Go.Proofs.Ytcfoebkbahpnaaa
