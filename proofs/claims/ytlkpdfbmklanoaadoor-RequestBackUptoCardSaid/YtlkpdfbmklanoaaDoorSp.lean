/- Plain lists of bytes: what the percent texts, splits and digits are, and their laws. No program stands in it. -/
import Derived.Lib.Split
import Derived.Lib.ItoaNum
import Derived.Lib.AtoiAll
import Derived.Lib.Join
import Derived.Lib.IndexMore
import Derived.Laws.BytesArg
namespace Go.Proofs.YtlkpdfbmklanoaaDoor

def nat (l : List UInt8) : List Int := l.map fun b => (b.toNat : Int)
def ofL (l : List UInt8) : ByteArray := ⟨l.toArray⟩
theorem nat_nil : nat [] = [] := rfl
theorem nat_append (a b : List UInt8) : nat (a ++ b) = nat a ++ nat b := by simp [nat]
theorem nat_cons (a : UInt8) (b : List UInt8) : nat (a :: b) = (a.toNat : Int) :: nat b := rfl
theorem nat_length (a : List UInt8) : (nat a).length = a.length := by simp [nat]
theorem ofL_toList (l : List UInt8) : (ofL l).data.toList = l := rfl
theorem ofL_size (l : List UInt8) : (ofL l).size = l.length := by simp [ofL, ByteArray.size]
theorem ofL_data (s : ByteArray) : ofL s.data.toList = s := by cases s; simp [ofL]
theorem ofL_append (a b : List UInt8) : ofL a ++ ofL b = ofL (a ++ b) := by
  show ByteArray.append _ _ = _
  simp [ofL, ByteArray.append_eq, ByteArray.ext_iff]
theorem size_toList (s : ByteArray) : s.data.toList.length = s.size := by rw [Array.length_toList]; rfl
theorem strOfNums_nat (l : List UInt8) : strOfNums (nat l) = ofL l := by
  simp [strOfNums, nat, ofL, Function.comp_def]
theorem ofL_inj {a b : List UInt8} (h : ofL a = ofL b) : a = b := by
  have := congrArg (fun s : ByteArray => s.data.toList) h
  simpa [ofL_toList] using this

/-! ### percent -/
def plain (b : UInt8) : Bool :=
  (decide (97 ≤ b.toNat) && decide (b.toNat ≤ 122)) || (decide (65 ≤ b.toNat) && decide (b.toNat ≤ 90)) || (decide (48 ≤ b.toNat) && decide (b.toNat ≤ 57)) || b.toNat == 45 || b.toNat == 95 || b.toNat == 46 || b.toNat == 126
def hexd (n : Nat) : UInt8 := if n < 10 then UInt8.ofNat (48 + n) else UInt8.ofNat (55 + n)
def encB (b : UInt8) : List UInt8 := if plain b then [b] else [37, hexd (b.toNat / 16), hexd (b.toNat % 16)]
def enc (l : List UInt8) : List UInt8 := l.flatMap encB
def unhex (b : UInt8) : Option Nat :=
  if 48 ≤ b.toNat ∧ b.toNat ≤ 57 then some (b.toNat - 48) else if 65 ≤ b.toNat ∧ b.toNat ≤ 70 then some (b.toNat - 55) else none
theorem enc_nil : enc [] = [] := rfl
theorem enc_cons (b : UInt8) (l : List UInt8) : enc (b :: l) = encB b ++ enc l := rfl
theorem enc_append (a b : List UInt8) : enc (a ++ b) = enc a ++ enc b := by simp [enc]
theorem forall_byte {P : UInt8 → Prop} (h : ∀ n : Fin 256, P (UInt8.ofNat n.val)) (b : UInt8) : P b := by
  have := h ⟨b.toNat, b.toNat_lt⟩
  simpa using this
theorem plain_37 : plain 37 = false := by decide
/-- one step of reading: the byte that a text of this form begins with, and the rest -/
def dec1 : List UInt8 → Option (UInt8 × List UInt8)
  | [] => none
  | c :: r =>
    if plain c then some (c, r)
    else if c = 37 then
      match r with
      | x :: y :: r' => match unhex x, unhex y with
        | some a, some b => if plain (UInt8.ofNat (16 * a + b)) then none else some (UInt8.ofNat (16 * a + b), r')
        | _, _ => none
      | _ => none
    else none
def decF : Nat → List UInt8 → Option (List UInt8)
  | _, [] => some []
  | 0, _ :: _ => none
  | n + 1, c :: r => match dec1 (c :: r) with
    | some (b, r') => (decF n r').map (b :: ·)
    | none => none
theorem hexd_unhex (a : Nat) (h : a < 16) : unhex (hexd a) = some a := by
  have : ∀ a : Fin 16, unhex (hexd a.val) = some a.val := by decide
  exact this ⟨a, h⟩
theorem unhex_lt {x : UInt8} {a : Nat} (h : unhex x = some a) : a < 16 := by
  unfold unhex at h
  split at h
  · simp only [Option.some.injEq] at h; omega
  · split at h
    · simp only [Option.some.injEq] at h; omega
    · cases h
theorem unhex_hexd {x : UInt8} {a : Nat} (h : unhex x = some a) : x = hexd a := by
  revert a
  refine forall_byte (P := fun x => ∀ {a : Nat}, unhex x = some a → x = hexd a) ?_ x
  intro n a h
  have key : ∀ n : Fin 256, (unhex (UInt8.ofNat n.val)).all (fun a => UInt8.ofNat n.val == hexd a) = true := by decide +kernel
  have := key n
  rw [h] at this
  simpa using this
theorem dec1_enc (b : UInt8) (r : List UInt8) : dec1 (encB b ++ r) = some (b, r) := by
  unfold encB
  by_cases hp : plain b = true
  · rw [if_pos hp]
    simp [dec1, hp]
  · rw [if_neg hp]
    have h1 := b.toNat_lt
    have ha := hexd_unhex (b.toNat / 16) (by omega)
    have hb := hexd_unhex (b.toNat % 16) (by omega)
    have hv : 16 * (b.toNat / 16) + b.toNat % 16 = b.toNat := by omega
    simp [dec1, plain_37, ha, hb, hv, hp]
theorem dec1_some {l : List UInt8} {b : UInt8} {r : List UInt8} (h : dec1 l = some (b, r)) : l = encB b ++ r := by
  unfold dec1 at h
  split at h
  · cases h
  · rename_i c r0
    by_cases hp : plain c = true
    · rw [if_pos hp] at h
      simp only [Option.some.injEq, Prod.mk.injEq] at h
      obtain ⟨rfl, rfl⟩ := h
      simp [encB, hp]
    · rw [if_neg hp] at h
      by_cases h37 : c = 37
      · rw [if_pos h37] at h
        split at h
        · rename_i x y r'
          split at h
          · rename_i a b' ha hb
            by_cases hq : plain (UInt8.ofNat (16 * a + b')) = true
            · rw [if_pos hq] at h; cases h
            · rw [if_neg hq] at h
              simp only [Option.some.injEq, Prod.mk.injEq] at h
              obtain ⟨rfl, rfl⟩ := h
              have l1 := unhex_lt ha
              have l2 := unhex_lt hb
              have e : (UInt8.ofNat (16 * a + b')).toNat = 16 * a + b' := by
                simp only [UInt8.toNat_ofNat']
                omega
              unfold encB
              rw [if_neg hq, e]
              have e1 : (16 * a + b') / 16 = a := by omega
              have e2 : (16 * a + b') % 16 = b' := by omega
              rw [e1, e2, ← unhex_hexd ha, ← unhex_hexd hb, h37]
              rfl
          · cases h
        · cases h
      · rw [if_neg h37] at h; cases h
theorem encB_pos (b : UInt8) : 1 ≤ (encB b).length ∧ (encB b).length ≤ 3 := by unfold encB; split <;> simp
theorem enc_length (l : List UInt8) : l.length ≤ (enc l).length ∧ (enc l).length ≤ 3 * l.length := by
  induction l with
  | nil => simp [enc]
  | cons b l ih =>
    have := encB_pos b
    rw [enc_cons, List.length_append, List.length_cons]
    omega
theorem encB_ne (b : UInt8) : encB b ≠ [] := by
  have := encB_pos b
  intro h
  rw [h] at this
  simp at this
theorem dec1_length {l : List UInt8} {b : UInt8} {r : List UInt8} (h : dec1 l = some (b, r)) : r.length < l.length := by
  have := dec1_some h
  have h2 := encB_pos b
  rw [this, List.length_append]
  omega
theorem decF_enc : ∀ (l : List UInt8) (n : Nat), l.length ≤ n → decF n (enc l) = some l
  | [], n, _ => by cases n <;> rfl
  | b :: l, 0, h => by simp at h
  | b :: l, n + 1, h => by
    rw [enc_cons]
    obtain ⟨c, r, hc⟩ : ∃ c r, encB b = c :: r := by
      cases hh : encB b with
      | nil => exact absurd hh (encB_ne b)
      | cons c r => exact ⟨c, r, rfl⟩
    have h1 := dec1_enc b (enc l)
    rw [hc] at h1 ⊢
    rw [List.cons_append] at h1 ⊢
    rw [decF, h1]
    simp [decF_enc l n (by simpa using h)]
theorem decF_some : ∀ (n : Nat) (l m : List UInt8), decF n l = some m → l = enc m
  | n, [], m, h => by
    have : m = [] := by cases n <;> simpa [decF, eq_comm] using h
    subst this
    rfl
  | 0, c :: r, m, h => by simp [decF] at h
  | n + 1, c :: r, m, h => by
    rw [decF] at h
    split at h
    · rename_i b r' h1
      obtain ⟨m', hm, rfl⟩ := Option.map_eq_some_iff.1 h
      rw [enc_cons, ← decF_some n r' m' hm]
      exact dec1_some h1
    · cases h
def dec (l : List UInt8) : Option (List UInt8) := decF l.length l
theorem dec_iff (l m : List UInt8) : dec l = some m ↔ l = enc m := by
  constructor
  · exact decF_some _ l m
  · intro h
    subst h
    exact decF_enc m _ (enc_length m).1
theorem enc_inj {a b : List UInt8} (h : enc a = enc b) : a = b := by
  have h1 := (dec_iff (enc a) a).2 rfl
  rw [h, (dec_iff (enc b) b).2 rfl] at h1
  exact (Option.some.inj h1).symm
theorem decF_mono : ∀ (n m : Nat) (l : List UInt8), l.length ≤ n → l.length ≤ m → decF n l = decF m l
  | n, m, [], _, _ => by cases n <;> cases m <;> rfl
  | 0, m, c :: r, h, _ => by simp at h
  | n + 1, 0, c :: r, _, h => by simp at h
  | n + 1, m + 1, c :: r, h1, h2 => by
    rw [decF, decF]
    split
    · rename_i b r' hd
      have := dec1_length hd
      rw [decF_mono n m r' (by simp at h1 this; omega) (by simp at h2 this; omega)]
    · rfl
theorem dec_cons (c : UInt8) (r : List UInt8) : dec (c :: r) = match dec1 (c :: r) with
    | some (b, r') => (dec r').map (b :: ·)
    | none => none := by
  unfold dec
  rw [List.length_cons, decF]
  split
  · rename_i b r' hd
    have := dec1_length hd
    rw [decF_mono r.length r'.length r' (by simp at this; omega) (Nat.le_refl _)]
  · rfl
theorem dec_nil : dec [] = some [] := rfl

/-! ### texts parted at a byte -/
def splitC (c : UInt8) : List UInt8 → List (List UInt8)
  | [] => [[]]
  | b :: r => if b = c then [] :: splitC c r else match splitC c r with
    | h :: t => (b :: h) :: t
    | [] => [[b]]
theorem splitC_ne (c : UInt8) (l : List UInt8) : splitC c l ≠ [] := by
  cases l with
  | nil => simp [splitC]
  | cons b r =>
    unfold splitC
    split
    · simp
    · split <;> simp
/-- a piece without the byte, then the byte, then the rest -/
theorem splitC_hit (c : UInt8) : ∀ (p r : List UInt8), c ∉ p → splitC c (p ++ c :: r) = p :: splitC c r
  | [], r, _ => by simp [splitC]
  | b :: p, r, h => by
    simp only [List.mem_cons, not_or] at h
    rw [List.cons_append, splitC, if_neg (fun e => h.1 e.symm), splitC_hit c p r h.2]
theorem splitC_miss (c : UInt8) : ∀ (p : List UInt8), c ∉ p → splitC c p = [p]
  | [], _ => rfl
  | b :: p, h => by
    simp only [List.mem_cons, not_or] at h
    rw [splitC, if_neg (fun e => h.1 e.symm), splitC_miss c p h.2]
theorem splitC_length (c : UInt8) (l : List UInt8) : (splitC c l).length = l.count c + 1 := by
  induction l with
  | nil => rfl
  | cons b r ih =>
    unfold splitC
    by_cases h : b = c
    · rw [if_pos h, List.length_cons, ih, h, List.count_cons_self]
    · rw [if_neg h, List.count_cons_of_ne h]
      have := splitC_ne c r
      split
      · rename_i x t e
        rw [e] at ih
        simpa using ih
      · rename_i e
        exact absurd e this
/-- a text up to the byte, and what is behind it -/
def cutC (c : UInt8) : List UInt8 → Option (List UInt8 × List UInt8)
  | [] => none
  | b :: r => if b = c then some ([], r) else (cutC c r).map fun x => (b :: x.1, x.2)
theorem cutC_some {c : UInt8} : ∀ {l p r : List UInt8}, cutC c l = some (p, r) → l = p ++ c :: r ∧ c ∉ p
  | [], p, r, h => by simp [cutC] at h
  | b :: l, p, r, h => by
    unfold cutC at h
    by_cases e : b = c
    · rw [if_pos e] at h
      simp only [Option.some.injEq, Prod.mk.injEq] at h
      obtain ⟨rfl, rfl⟩ := h
      simp [e]
    · rw [if_neg e] at h
      obtain ⟨x, hx, he⟩ := Option.map_eq_some_iff.1 h
      simp only [Prod.mk.injEq] at he
      obtain ⟨rfl, rfl⟩ := he
      obtain ⟨h1, h2⟩ := cutC_some (show cutC c l = some (x.1, x.2) from hx)
      exact ⟨by rw [h1]; rfl, by simp only [List.mem_cons, not_or]; exact ⟨fun q => e q.symm, h2⟩⟩
theorem cutC_none {c : UInt8} : ∀ {l : List UInt8}, cutC c l = none ↔ c ∉ l
  | [] => by simp [cutC]
  | b :: l => by
    unfold cutC
    by_cases e : b = c
    · simp [e]
    · simp [e, cutC_none (l := l), Ne.symm e]
theorem cutC_mk {c : UInt8} {p r : List UInt8} (h : c ∉ p) : cutC c (p ++ c :: r) = some (p, r) := by
  induction p with
  | nil => simp [cutC]
  | cons b p ih =>
    simp only [List.mem_cons, not_or] at h
    rw [List.cons_append, cutC, if_neg (fun e => h.1 e.symm), ih h.2]
    rfl
theorem splitC_cut (c : UInt8) (l : List UInt8) : splitC c l = match cutC c l with
    | some (p, r) => p :: splitC c r
    | none => [l] := by
  cases h : cutC c l with
  | none => exact splitC_miss c l (cutC_none.1 h)
  | some x =>
    obtain ⟨h1, h2⟩ := cutC_some (show cutC c l = some (x.1, x.2) from h)
    simp only
    conv => lhs; rw [h1]
    exact splitC_hit c _ _ h2
end Go.Proofs.YtlkpdfbmklanoaaDoor
