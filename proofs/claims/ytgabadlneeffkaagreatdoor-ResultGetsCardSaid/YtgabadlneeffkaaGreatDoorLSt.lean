import Derived.Lib.Split
import Derived.Lib.ItoaNum
import Derived.Lib.AtoiAll
import Derived.Lib.Join
import Derived.Lib.IndexMore
import Derived.Laws.BytesArg
import Derived.Lib.IndexBytes
import Derived.Lib.CountLaws
import Derived.Lib.SplitLaws
import Derived.Lib.CutLaws
import Derived.Lib.AtoiAllCases
/- Plain lists of bytes: what the percent texts, splits and digits are, and their laws. No program stands in it. -/
namespace Go.Proofs.YtgabadlneeffkaaGreatDoor

def nat (l : List UInt8) : List Int := l.map fun b => (b.toNat : Int)
def ofL (l : List UInt8) : ByteArray := ⟨l.toArray⟩
theorem nat_append (a b : List UInt8) : nat (a ++ b) = nat a ++ nat b := by simp [nat]
theorem nat_length (a : List UInt8) : (nat a).length = a.length := by simp [nat]
theorem ofL_toList (l : List UInt8) : (ofL l).data.toList = l := rfl
theorem ofL_size (l : List UInt8) : (ofL l).size = l.length := by simp [ofL, ByteArray.size]
theorem ofL_data (s : ByteArray) : ofL s.data.toList = s := by cases s; simp [ofL]
theorem ofL_append (a b : List UInt8) : ofL a ++ ofL b = ofL (a ++ b) := by
  show ByteArray.append _ _ = _
  simp [ofL, ByteArray.append_eq, ByteArray.ext_iff]
theorem size_toList (s : ByteArray) : s.data.toList.length = s.size := by rw [Array.length_toList]; rfl
theorem strOfNums_nat (l : List UInt8) : strOfNums (nat l) = ofL l := by
  simp [strOfNums, nat, ofL, Function.comp_def]
/-! ### percent -/
def plain (b : UInt8) : Bool :=
  (decide (97 ≤ b.toNat) && decide (b.toNat ≤ 122)) || (decide (65 ≤ b.toNat) && decide (b.toNat ≤ 90)) || (decide (48 ≤ b.toNat) && decide (b.toNat ≤ 57)) || b.toNat == 45 || b.toNat == 95 || b.toNat == 46 || b.toNat == 126
def hexd (n : Nat) : UInt8 := if n < 10 then UInt8.ofNat (48 + n) else UInt8.ofNat (55 + n)
def encB (b : UInt8) : List UInt8 := if plain b then [b] else [37, hexd (b.toNat / 16), hexd (b.toNat % 16)]
def enc (l : List UInt8) : List UInt8 := l.flatMap encB
theorem forall_byte {P : UInt8 → Prop} (h : ∀ n : Fin 256, P (UInt8.ofNat n.val)) (b : UInt8) : P b := by
  have := h ⟨b.toNat, b.toNat_lt⟩
  simpa using this
/-! ### texts parted at a byte -/
def splitC (c : UInt8) : List UInt8 → List (List UInt8)
  | [] => [[]]
  | b :: r => if b = c then [] :: splitC c r else match splitC c r with
    | h :: t => (b :: h) :: t
    | [] => [[b]]
theorem splitC_ne (c : UInt8) (l : List UInt8) : splitC c l ≠ [] := by
  cases l with
  | nil => simp [splitC]
  | cons b r =>
    unfold splitC
    split
    · simp
    split <;> simp
/-- a piece without the byte, then the byte, then the rest -/
theorem splitC_hit (c : UInt8) : ∀ (p r : List UInt8), c ∉ p → splitC c (p ++ c :: r) = p :: splitC c r
  | [], r, _ => by simp [splitC]
  | b :: p, r, h => by
    simp only [List.mem_cons, not_or] at h
    rw [List.cons_append, splitC, if_neg (fun e => h.1 e.symm), splitC_hit c p r h.2]
theorem splitC_miss (c : UInt8) : ∀ (p : List UInt8), c ∉ p → splitC c p = [p]
  | [], _ => rfl
  | b :: p, h => by
    simp only [List.mem_cons, not_or] at h
    rw [splitC, if_neg (fun e => h.1 e.symm), splitC_miss c p h.2]
theorem splitC_length (c : UInt8) (l : List UInt8) : (splitC c l).length = l.count c + 1 := by
  induction l with
  | nil => rfl
  | cons b r ih =>
    unfold splitC
    by_cases h : b = c
    · rw [if_pos h, List.length_cons, ih, h, List.count_cons_self]
    rw [if_neg h, List.count_cons_of_ne h]
    have := splitC_ne c r
    split
    · rename_i x t e
      rw [e] at ih
      simpa using ih
    rename_i e
    exact absurd e this
/-- a text up to the byte, and what is behind it -/
def cutC (c : UInt8) : List UInt8 → Option (List UInt8 × List UInt8)
  | [] => none
  | b :: r => if b = c then some ([], r) else (cutC c r).map fun x => (b :: x.1, x.2)
theorem cutC_some {c : UInt8} : ∀ {l p r : List UInt8}, cutC c l = some (p, r) → l = p ++ c :: r ∧ c ∉ p
  | [], p, r, h => by simp [cutC] at h
  | b :: l, p, r, h => by
    unfold cutC at h
    by_cases e : b = c
    · rw [if_pos e] at h
      simp only [Option.some.injEq, Prod.mk.injEq] at h
      obtain ⟨rfl, rfl⟩ := h
      simp [e]
    rw [if_neg e] at h
    obtain ⟨x, hx, he⟩ := Option.map_eq_some_iff.1 h
    simp only [Prod.mk.injEq] at he
    obtain ⟨rfl, rfl⟩ := he
    obtain ⟨h1, h2⟩ := cutC_some (show cutC c l = some (x.1, x.2) from hx)
    exact ⟨by rw [h1]; rfl, by simp only [List.mem_cons, not_or]; exact ⟨fun q => e q.symm, h2⟩⟩
theorem cutC_none {c : UInt8} : ∀ {l : List UInt8}, cutC c l = none ↔ c ∉ l
  | [] => by simp [cutC]
  | b :: l => by
    unfold cutC
    by_cases e : b = c
    · simp [e]
    simp [e, cutC_none (l := l), Ne.symm e]
theorem cutC_mk {c : UInt8} {p r : List UInt8} (h : c ∉ p) : cutC c (p ++ c :: r) = some (p, r) := by
  induction p with
  | nil => simp [cutC]
  | cons b p ih =>
    simp only [List.mem_cons, not_or] at h
    rw [List.cons_append, cutC, if_neg (fun e => h.1 e.symm), ih h.2]
    rfl
theorem splitC_cut (c : UInt8) (l : List UInt8) : splitC c l = match cutC c l with
    | some (p, r) => p :: splitC c r
    | none => [l] := by
  cases h : cutC c l with
  | none => exact splitC_miss c l (cutC_none.1 h)
  | some x =>
    obtain ⟨h1, h2⟩ := cutC_some (show cutC c l = some (x.1, x.2) from h)
    simp only
    conv => lhs; rw [h1]
    exact splitC_hit c _ _ h2
end Go.Proofs.YtgabadlneeffkaaGreatDoor

/- The library's words (strings.Split, Cut, Join, strconv.Itoa, Atoi) as the plain lists of bytes that Sp.lean speaks of. -/
namespace Go.Proofs.YtgabadlneeffkaaGreatDoor
open Go.Lib

theorem cutC_index (c : UInt8) : ∀ l : List UInt8, (indexByte l c = -1 ∧ cutC c l = none) ∨ ∃ i : Nat, indexByte l c = i ∧ i < l.length ∧ cutC c l = some (l.take i, l.drop (i + 1))
  | [] => .inl ⟨rfl, rfl⟩
  | b :: l => by
    unfold indexByte cutC
    by_cases e : b = c
    · right
      refine ⟨0, ?_, by simp, ?_⟩
      · rw [if_pos (beq_iff_eq.2 e)]; rfl
      rw [if_pos e]; simp
    have hb : ¬ (b == c) = true := fun h => e (beq_iff_eq.1 h)
    rw [if_neg hb, if_neg e]
    rcases cutC_index c l with ⟨h1, h2⟩ | ⟨i, h1, h2, h3⟩
    · left
      rw [h1, h2]
      exact ⟨rfl, rfl⟩
    right
    refine ⟨i + 1, ?_, by simpa using h2, ?_⟩
    · rw [h1, if_neg (by intro h; have := beq_iff_eq.1 h; omega)]; omega
    rw [h3]; simp

theorem splitK_eq (c : UInt8) : ∀ (k : Nat) (l : List UInt8), l.count c = k → splitK [c] 0 k l = splitC c l
  | 0, l, h => by
    have : c ∉ l := List.count_eq_zero.1 h
    rw [splitC_miss c l this]
    rfl
  | k + 1, l, h => by
    rw [splitK, index_one, splitC_cut]
    rcases cutC_index c l with ⟨h1, h2⟩ | ⟨i, h1, h2, h3⟩
    · have := cutC_none.1 h2
      rw [List.count_eq_zero.2 this] at h
      cases h
    obtain ⟨e1, e2⟩ := cutC_some h3
    have hc : (l.drop (i + 1)).count c = k := by
      have h4 := h
      rw [e1, List.count_append, List.count_cons_self, List.count_eq_zero.2 e2] at h4
      omega
    rw [h1, h3, if_neg (by intro h; have := beq_iff_eq.1 h; omega)]
    simp only [List.length_singleton, Int.toNat_natCast, Nat.add_zero]
    rw [splitK_eq c k _ hc]

theorem countB_one (s : ByteArray) (c : UInt8) : countB s (ofL [c]) = s.data.toList.count c := by
  generalize hn : s.size = n
  induction n using Nat.strongRecOn generalizing s with
  | _ n ih =>
    have hi : indexB s (ofL [c]) = indexByte s.data.toList c := by
      show index _ _ = _
      rw [← index_one]
      rfl
    rcases cutC_index c s.data.toList with ⟨h1, h2⟩ | ⟨i, h1, h2, h3⟩
    · rw [countB_miss _ _ (hi.trans h1), List.count_eq_zero.2 (cutC_none.1 h2)]
    rw [countB_hit s _ i (by simp [ofL_size]) (hi.trans h1)]
    obtain ⟨e1, e2⟩ := cutC_some h3
    have hx : (s.extract (i + (ofL [c]).size) s.size).data.toList = s.data.toList.drop (i + 1) := by
      rw [extract_data]
      rw [ofL_size, List.length_singleton]
      apply List.take_of_length_le
      rw [List.length_drop, size_toList]
      omega
    have hl : (s.extract (i + (ofL [c]).size) s.size).size < n := by
      rw [← size_toList, hx, List.length_drop, size_toList]
      rw [size_toList] at h2
      omega
    rw [ih _ hl _ rfl, hx]
    conv => rhs; rw [e1]
    rw [List.count_append, List.count_cons_self, List.count_eq_zero.2 e2]
    omega

theorem splitB_eq (s : ByteArray) (c : UInt8) : splitB (ofL [c]) 0 (countB s (ofL [c])) s = (splitC c s.data.toList).map ofL := by
  have h := splitB_data (ofL [c]) 0 (countB s (ofL [c])) s
  rw [countB_one] at h ⊢
  rw [show (ofL [c]).data.toList = [c] from rfl, splitK_eq c _ _ rfl] at h
  rw [← h, List.map_map]
  symm
  conv => rhs; rw [← List.map_id (splitB (ofL [c]) 0 (List.count c s.data.toList) s)]
  apply List.map_congr_left
  intro x _
  exact ofL_data x

/-! ### digits -/
def dd (n : Nat) : List UInt8 :=
  if n < 10 then [UInt8.ofNat (48 + n)]
  else if n < 100 then [UInt8.ofNat (48 + n / 10), UInt8.ofNat (48 + n % 10)]
  else if n < 1000 then [UInt8.ofNat (48 + n / 100), UInt8.ofNat (48 + n / 10 % 10), UInt8.ofNat (48 + n % 10)]
  else [UInt8.ofNat (48 + n / 1000), UInt8.ofNat (48 + n / 100 % 10), UInt8.ofNat (48 + n / 10 % 10), UInt8.ofNat (48 + n % 10)]
theorem decDigits_dd (n : Nat) (h : n < 10000) : decDigits n = dd n := by
  unfold dd
  by_cases h1 : n < 10
  · rw [if_pos h1, decDigits, dif_pos h1]
  rw [if_neg h1, decDigits, dif_neg h1]
  by_cases h2 : n < 100
  · rw [if_pos h2, decDigits, dif_pos (by omega)]; rfl
  rw [if_neg h2, decDigits, dif_neg (by omega)]
  by_cases h3 : n < 1000
  · rw [if_pos h3, decDigits, dif_pos (by omega), Nat.div_div_eq_div_mul]; rfl
  rw [if_neg h3, decDigits, dif_neg (by omega), decDigits, dif_pos (by omega)]
  have e1 : n / 10 / 10 / 10 = n / 1000 := by omega
  have e2 : n / 10 / 10 = n / 100 := by omega
  rw [e1, e2]; rfl
theorem itoa_dd (n : Nat) (h : n < 10000) : itoa (n : Int) = dd n := by
  unfold itoa
  rw [if_neg (by omega), Int.toNat_natCast, decDigits_dd n h]
def isOk (x : NumEnd Int) (n : Nat) : Bool := match x with | .ok v => v == (n : Int) | _ => false
theorem atoi_dd (n : Nat) (h : n < 4096) : atoiAll (dd n) = .ok (n : Int) := by
  have key : ∀ a b : Fin 64, isOk (atoiAll (dd (64 * a.val + b.val))) (64 * a.val + b.val) = true := by decide +kernel
  have := key ⟨n / 64, by omega⟩ ⟨n % 64, by omega⟩
  simp only at this
  rw [show 64 * (n / 64) + n % 64 = n by omega] at this
  unfold isOk at this
  split at this
  · rename_i v e
    rw [e, beq_iff_eq.1 this]
  cases this
end Go.Proofs.YtgabadlneeffkaaGreatDoor

/- Plain terms and their texts: what is right, what is written, what is read, and that what is written reads back. No program stands in it. -/
namespace Go.Proofs.YtgabadlneeffkaaGreatDoor

def isLet (b : UInt8) : Bool := (decide (97 ≤ b.toNat) && decide (b.toNat ≤ 122)) || (decide (65 ≤ b.toNat) && decide (b.toNat ≤ 90))
def isDig (b : UInt8) : Bool := decide (48 ≤ b.toNat) && decide (b.toNat ≤ 57)
def nameB (b : UInt8) : Bool := isLet b || isDig b || b.toNat == 95
def iriC (b : UInt8) : Bool := decide (33 ≤ b.toNat) && decide (b.toNat ≤ 126) && !([60, 62, 34, 123, 125, 124, 94, 96, 92].contains b.toNat)
def textB (b : UInt8) : Bool := (decide (32 ≤ b.toNat) && decide (b.toNat ≤ 126)) || b.toNat == 10 || b.toNat == 9
def langB (b : UInt8) : Bool := decide (97 ≤ b.toNat) && decide (b.toNat ≤ 122)
def okName : List UInt8 → Bool
  | [] => false
  | c :: r => isLet c && r.all nameB && decide (r.length ≤ 31)
def okIri (l : List UInt8) : Bool := !l.isEmpty && decide (l.length ≤ 4096) && l.all iriC
def okText (l : List UInt8) : Bool := decide (l.length ≤ 4096) && l.all textB
def okLang (l : List UInt8) : Bool := !l.isEmpty && decide (l.length ≤ 8) && l.all langB
/-- a term: its kind, its text, its type, its language -/
structure Tm where
  k : Int
  x : List UInt8
  ty : List UInt8
  la : List UInt8
deriving DecidableEq
def tm0 : Tm := ⟨0, [], [], []⟩
def okTm (t : Tm) : Bool :=
  if t.k = 2 then okText t.x && (t.ty.isEmpty || okIri t.ty) && (t.la.isEmpty || (t.ty.isEmpty && okLang t.la))
  else t.ty.isEmpty && t.la.isEmpty && (if t.k = 0 then t.x.isEmpty else if t.k = 1 then okIri t.x else if t.k = 3 ∨ t.k = 4 then okName t.x else false)

/-! ### writing -/
def escB (b : UInt8) : List UInt8 := if b.toNat = 34 then [92, 34] else if b.toNat = 92 then [92, 92] else if b.toNat = 10 then [92, 110] else if b.toNat = 9 then [92, 116] else [b]
def esc (l : List UInt8) : List UInt8 := l.flatMap escB
def tail2 (t : Tm) : List UInt8 := (if t.ty.isEmpty then [] else 94 :: 94 :: 60 :: (t.ty ++ [62])) ++ (if t.la.isEmpty then [] else 64 :: t.la)
def ttext (t : Tm) : List UInt8 :=
  if t.k = 1 then 60 :: (t.x ++ [62]) else if t.k = 3 then 95 :: 58 :: t.x else if t.k = 4 then 63 :: t.x
  else if t.k = 2 then 34 :: (esc t.x ++ 34 :: tail2 t) else []

/-! ### reading -/
def unescB (b : UInt8) : Option UInt8 := if b.toNat = 34 then some 34 else if b.toNat = 92 then some 92 else if b.toNat = 110 then some 10 else if b.toNat = 116 then some 9 else none
/-- behind the opening quote: the text, and what is behind the closing one -/
def litR : List UInt8 → Option (List UInt8 × List UInt8)
  | [] => none
  | b :: r =>
    if b.toNat = 34 then some ([], r)
    else if b.toNat = 92 then
      match r with
      | [] => none
      | c :: r' => match unescB c with
        | some d => (litR r').map fun x => (d :: x.1, x.2)
        | none => none
    else if b.toNat = 10 ∨ b.toNat = 9 then none
    else (litR r).map fun x => (b :: x.1, x.2)
/-- an IRI between < and >, and what is behind it -/
def iriR : List UInt8 → Option (List UInt8 × List UInt8)
  | [] => none
  | c :: r => if c.toNat = 60 then match cutC 62 r with
      | some (p, q) => if okIri p then some (p, q) else none
      | none => none
    else none
def nameN : List UInt8 → Nat
  | [] => 0
  | c :: r => if isLet c then 1 + ((r.take 31).takeWhile nameB).length else 0
def behindR (t : Tm) (r : List UInt8) : Tm × List UInt8 :=
  match r with
  | [] => (t, r)
  | a :: r1 =>
    if a.toNat = 94 then
      match r1 with
      | [] => (t, r)
      | b :: r2 => if b.toNat = 94 then (match iriR r2 with
          | some (p, q) => ({ t with ty := p }, q)
          | none => (t, r)) else (t, r)
    else if a.toNat = 64 then
      (if okLang (r1.takeWhile langB) then ({ t with la := r1.takeWhile langB }, r1.dropWhile langB) else (t, r))
    else (t, r)
def tpre : List UInt8 → Option (Tm × List UInt8)
  | [] => none
  | c :: r =>
    if c.toNat = 60 then (iriR (c :: r)).map fun x => (⟨1, x.1, [], []⟩, x.2)
    else if c.toNat = 34 then (litR r).bind fun x => if okText x.1 then some (behindR ⟨2, x.1, [], []⟩ x.2) else none
    else if c.toNat = 63 then (if 0 < nameN r then some (⟨4, r.take (nameN r), [], []⟩, r.drop (nameN r)) else none)
    else if c.toNat = 95 then
      match r with
      | [] => none
      | d :: r1 => if d.toNat = 58 then (if 0 < nameN r1 then some (⟨3, r1.take (nameN r1), [], []⟩, r1.drop (nameN r1)) else none) else none
    else none
def tread (l : List UInt8) : Option Tm :=
  if l.isEmpty then some tm0 else match tpre l with
    | some (t, []) => some t
    | _ => none

/-! ### what is written reads back -/
theorem byte_eq {b : UInt8} {n : Nat} (h : b.toNat = n) (_ : n < 256) : b = UInt8.ofNat n := by
  rw [← h]; exact (UInt8.ofNat_toNat).symm
theorem litR_cons (b : UInt8) (r : List UInt8) : litR (b :: r) =
    if b.toNat = 34 then some ([], r)
    else if b.toNat = 92 then
      match r with
      | [] => none
      | c :: r' => match unescB c with
        | some d => (litR r').map fun x => (d :: x.1, x.2)
        | none => none
    else if b.toNat = 10 ∨ b.toNat = 9 then none
    else (litR r).map fun x => (b :: x.1, x.2) := by rw [litR.eq_def]
theorem tpre_cons (c : UInt8) (r : List UInt8) : tpre (c :: r) =
    if c.toNat = 60 then (iriR (c :: r)).map fun x => (⟨1, x.1, [], []⟩, x.2)
    else if c.toNat = 34 then (litR r).bind fun x => if okText x.1 then some (behindR ⟨2, x.1, [], []⟩ x.2) else none
    else if c.toNat = 63 then (if 0 < nameN r then some (⟨4, r.take (nameN r), [], []⟩, r.drop (nameN r)) else none)
    else if c.toNat = 95 then
      match r with
      | [] => none
      | d :: r1 => if d.toNat = 58 then (if 0 < nameN r1 then some (⟨3, r1.take (nameN r1), [], []⟩, r1.drop (nameN r1)) else none) else none
    else none := by rw [tpre.eq_def]
theorem behindR_cons (t : Tm) (a : UInt8) (r1 : List UInt8) : behindR t (a :: r1) =
    if a.toNat = 94 then
      match r1 with
      | [] => (t, a :: r1)
      | b :: r2 => if b.toNat = 94 then (match iriR r2 with
          | some (p, q) => ({ t with ty := p }, q)
          | none => (t, a :: r1)) else (t, a :: r1)
    else if a.toNat = 64 then
      (if okLang (r1.takeWhile langB) then ({ t with la := r1.takeWhile langB }, r1.dropWhile langB) else (t, a :: r1))
    else (t, a :: r1) := by rw [behindR.eq_def]
theorem litR_esc (b : UInt8) (r : List UInt8) : litR (escB b ++ r) = (litR r).map fun x => (b :: x.1, x.2) := by
  unfold escB
  by_cases h1 : b.toNat = 34
  · obtain rfl := byte_eq h1 (by decide)
    rw [if_pos h1, List.cons_append, List.cons_append, List.nil_append, litR_cons, if_neg (by decide), if_pos (by decide)]
    rfl
  by_cases h2 : b.toNat = 92
  · obtain rfl := byte_eq h2 (by decide)
    rw [if_neg h1, if_pos h2, List.cons_append, List.cons_append, List.nil_append, litR_cons, if_neg (by decide), if_pos (by decide)]
    rfl
  by_cases h3 : b.toNat = 10
  · obtain rfl := byte_eq h3 (by decide)
    rw [if_neg h1, if_neg h2, if_pos h3, List.cons_append, List.cons_append, List.nil_append, litR_cons, if_neg (by decide), if_pos (by decide)]
    rfl
  by_cases h4 : b.toNat = 9
  · obtain rfl := byte_eq h4 (by decide)
    rw [if_neg h1, if_neg h2, if_neg h3, if_pos h4, List.cons_append, List.cons_append, List.nil_append, litR_cons, if_neg (by decide), if_pos (by decide)]
    rfl
  rw [if_neg h1, if_neg h2, if_neg h3, if_neg h4, List.cons_append, List.nil_append, litR_cons, if_neg h1, if_neg h2, if_neg (by omega)]
theorem litR_mk : ∀ (l r : List UInt8), litR (esc l ++ 34 :: r) = some (l, r)
  | [], r => by rw [show esc [] = [] from rfl, List.nil_append, litR_cons, if_pos (by decide)]
  | b :: l, r => by
    rw [show esc (b :: l) = escB b ++ esc l from rfl, List.append_assoc, litR_esc, litR_mk l r]
    rfl
theorem unescB_some {c d : UInt8} (h : unescB c = some d) : escB d = [92, c] := by
  have key : ∀ n : Fin 256, (unescB (UInt8.ofNat n.val)).all (fun d => escB d == [92, UInt8.ofNat n.val]) = true := by decide +kernel
  revert d
  refine forall_byte (P := fun c => ∀ {d : UInt8}, unescB c = some d → escB d = [92, c]) ?_ c
  intro n d h
  have := key n
  rw [h] at this
  simpa using this
theorem litR_some : ∀ (n : Nat) (l m r : List UInt8), l.length ≤ n → litR l = some (m, r) → l = esc m ++ 34 :: r
  | n, [], m, r, _, h => by simp [litR] at h
  | 0, b :: l, m, r, hl, h => by simp at hl
  | n + 1, b :: l, m, r, hl, h => by
    rw [litR_cons] at h
    by_cases h1 : b.toNat = 34
    · rw [if_pos h1] at h
      simp only [Option.some.injEq, Prod.mk.injEq] at h
      obtain ⟨rfl, rfl⟩ := h
      rw [byte_eq h1 (by decide)]
      rfl
    rw [if_neg h1] at h
    by_cases h2 : b.toNat = 92
    · rw [if_pos h2] at h
      split at h
      · cases h
      rename_i c r'
      split at h
      · rename_i d hd
        obtain ⟨x, hx, he⟩ := Option.map_eq_some_iff.1 h
        simp only [Prod.mk.injEq] at he
        obtain ⟨rfl, rfl⟩ := he
        have := litR_some n r' x.1 x.2 (by simp at hl; omega) hx
        rw [show esc (d :: x.1) = escB d ++ esc x.1 from rfl, unescB_some hd, byte_eq h2 (by decide), this]
        simp
      cases h
    rw [if_neg h2] at h
    by_cases h3 : b.toNat = 10 ∨ b.toNat = 9
    · rw [if_pos h3] at h; cases h
    rw [if_neg h3] at h
    obtain ⟨x, hx, he⟩ := Option.map_eq_some_iff.1 h
    simp only [Prod.mk.injEq] at he
    obtain ⟨rfl, rfl⟩ := he
    have := litR_some n l x.1 x.2 (by simp at hl; omega) hx
    rw [show esc (b :: x.1) = escB b ++ esc x.1 from rfl, this]
    unfold escB
    rw [if_neg h1, if_neg h2, if_neg (fun e => h3 (.inl e)), if_neg (fun e => h3 (.inr e)), List.append_assoc]
    rfl
theorem all_not_mem {p : UInt8 → Bool} {l : List UInt8} {c : UInt8} (h : l.all p = true) (hc : p c = false) : c ∉ l := by
  intro hm
  have := List.all_eq_true.1 h c hm
  rw [hc] at this
  cases this
theorem okIri_all {l : List UInt8} (h : okIri l = true) : l.all iriC = true := by
  unfold okIri at h
  simp only [Bool.and_eq_true] at h
  exact h.2
theorem iriR_mk {p : List UInt8} (h : okIri p = true) (q : List UInt8) : iriR (60 :: (p ++ 62 :: q)) = some (p, q) := by
  rw [iriR, if_pos (by decide), cutC_mk (all_not_mem (okIri_all h) (by decide))]
  simp only
  rw [if_pos h]
theorem iriR_some {l p q : List UInt8} (h : iriR l = some (p, q)) : l = 60 :: (p ++ 62 :: q) ∧ okIri p = true := by
  unfold iriR at h
  split at h
  · cases h
  rename_i c r
  by_cases h1 : c.toNat = 60
  · rw [if_pos h1] at h
    split at h
    · rename_i p' q' hc
      by_cases h2 : okIri p' = true
      · rw [if_pos h2] at h
        simp only [Option.some.injEq, Prod.mk.injEq] at h
        obtain ⟨rfl, rfl⟩ := h
        rw [byte_eq h1 (by decide), (cutC_some hc).1]
        exact ⟨rfl, h2⟩
      rw [if_neg h2] at h; cases h
    cases h
  rw [if_neg h1] at h; cases h
theorem okName_nameN {l : List UInt8} (h : okName l = true) : nameN l = l.length ∧ 0 < l.length := by
  unfold okName at h
  split at h
  · cases h
  rename_i c r
  simp only [Bool.and_eq_true, decide_eq_true_eq] at h
  rw [show nameN (c :: r) = if isLet c then 1 + ((r.take 31).takeWhile nameB).length else 0 from rfl, if_pos h.1.1, List.take_of_length_le h.2]
  have : r.takeWhile nameB = r := by
    have := h.1.2
    rw [List.all_eq_true] at this
    rw [← List.append_nil r, List.takeWhile_append_of_pos (by simpa using this)]
    simp
  rw [this, List.length_cons]
  omega
theorem nameN_le (l : List UInt8) : nameN l ≤ l.length := by
  unfold nameN
  split
  · simp
  rename_i c r
  split
  · have h1 := (List.takeWhile_prefix nameB (l := r.take 31)).length_le
    have h2 := List.length_take_le 31 r
    rw [List.length_take] at h1
    rw [List.length_cons]
    omega
  omega
theorem takeWhile_all (p : UInt8 → Bool) : ∀ l : List UInt8, (l.takeWhile p).all p = true
  | [] => rfl
  | b :: l => by
    by_cases h : p b = true
    · rw [List.takeWhile_cons_of_pos h, List.all_cons, h, takeWhile_all p l]; rfl
    rw [List.takeWhile_cons_of_neg h]; rfl
theorem take_of_prefix {a l : List UInt8} (h : a <+: l) : l.take a.length = a := by
  obtain ⟨t, rfl⟩ := h
  simp
theorem nameN_ok {l : List UInt8} (h : 0 < nameN l) : okName (l.take (nameN l)) = true := by
  unfold nameN at h ⊢
  split
  · rename_i l0
    simp at h
  rename_i c r
  by_cases hc : isLet c = true
  · rw [if_pos hc, Nat.add_comm, List.take_succ_cons]
    have hp : (r.take 31).takeWhile nameB <+: r := (List.takeWhile_prefix nameB).trans (List.take_prefix 31 r)
    rw [take_of_prefix hp, okName, hc, takeWhile_all]
    have h1 := (List.takeWhile_prefix nameB (l := r.take 31)).length_le
    rw [List.length_take] at h1
    simp
    omega
  simp only at h
  rw [if_neg hc] at h
  omega
theorem okLang_all {l : List UInt8} (h : okLang l = true) : l.all langB = true := by
  unfold okLang at h
  simp only [Bool.and_eq_true] at h
  exact h.2
theorem takeWhile_full {p : UInt8 → Bool} {l : List UInt8} (h : l.all p = true) : l.takeWhile p = l ∧ l.dropWhile p = [] := by
  induction l with
  | nil => exact ⟨rfl, rfl⟩
  | cons b l ih =>
    rw [List.all_cons, Bool.and_eq_true] at h
    rw [List.takeWhile_cons_of_pos h.1, List.dropWhile_cons_of_pos h.1, (ih h.2).1]
    exact ⟨rfl, (ih h.2).2⟩
theorem isEmpty_nil {l : List UInt8} (h : l.isEmpty = true) : l = [] := List.isEmpty_iff.1 h
theorem tpre_text {t : Tm} (h : okTm t = true) (h0 : t.k ≠ 0) : tpre (ttext t) = some (t, []) := by
  obtain ⟨k, x, ty, la⟩ := t
  unfold okTm at h
  simp only at h h0
  by_cases k2 : k = 2
  · subst k2
    rw [if_pos rfl] at h
    simp only [Bool.and_eq_true, Bool.or_eq_true] at h
    obtain ⟨⟨hx, hty⟩, hla⟩ := h
    have e : ttext ⟨2, x, ty, la⟩ = 34 :: (esc x ++ 34 :: tail2 ⟨2, x, ty, la⟩) := rfl
    rw [e, tpre_cons, if_neg (by decide), if_pos (by decide), litR_mk]
    simp only [Option.bind_some]
    rw [if_pos hx]
    congr 1
    unfold tail2
    simp only
    rcases hty with hty | hty
    · obtain rfl := isEmpty_nil hty
      rcases hla with hla | ⟨_, hla⟩
      · obtain rfl := isEmpty_nil hla
        rfl
      have hne : la.isEmpty = false := by
        unfold okLang at hla
        simp only [Bool.and_eq_true, Bool.not_eq_true'] at hla
        exact hla.1.1
      rw [hne]
      simp only [List.isEmpty_nil, if_true, List.nil_append, Bool.false_eq_true, if_false]
      rw [behindR_cons]
      rw [if_neg (by decide), if_pos (by decide), (takeWhile_full (okLang_all hla)).1, (takeWhile_full (okLang_all hla)).2, if_pos hla]
    have hne : ty.isEmpty = false := by
      have := hty
      unfold okIri at this
      simp only [Bool.and_eq_true, Bool.not_eq_true'] at this
      exact this.1.1
    have hla' : la = [] := by
      rcases hla with hla | ⟨hh, _⟩
      · exact isEmpty_nil hla
      rw [hne] at hh; cases hh
    subst hla'
    rw [hne]
    simp only [List.isEmpty_nil, if_true, List.append_nil, Bool.false_eq_true, if_false]
    rw [behindR_cons]
    rw [if_pos (by decide)]
    simp only
    rw [if_pos (by decide)]
    rw [iriR_mk hty]
  rw [if_neg k2] at h
  simp only [Bool.and_eq_true] at h
  obtain ⟨⟨h1, h2⟩, h3⟩ := h
  obtain rfl := isEmpty_nil h1
  obtain rfl := isEmpty_nil h2
  rw [if_neg h0] at h3
  by_cases k1 : k = 1
  · subst k1
    rw [if_pos rfl] at h3
    have e : ttext ⟨1, x, [], []⟩ = 60 :: (x ++ [62]) := rfl
    rw [e, tpre_cons, if_pos (by decide), iriR_mk h3]
    rfl
  rw [if_neg k1] at h3
  by_cases k3 : k = 3
  · subst k3
    rw [if_pos (Or.inl rfl)] at h3
    have e : ttext ⟨3, x, [], []⟩ = 95 :: 58 :: x := rfl
    obtain ⟨n1, n2⟩ := okName_nameN h3
    rw [e, tpre_cons, if_neg (by decide), if_neg (by decide), if_neg (by decide), if_pos (by decide)]
    simp only
    rw [if_pos (by decide), n1, if_pos n2, List.take_length, List.drop_length]
  by_cases k4 : k = 4
  · subst k4
    rw [if_pos (Or.inr rfl)] at h3
    have e : ttext ⟨4, x, [], []⟩ = 63 :: x := rfl
    obtain ⟨n1, n2⟩ := okName_nameN h3
    rw [e, tpre_cons, if_neg (by decide), if_neg (by decide), if_pos (by decide), n1, if_pos n2, List.take_length, List.drop_length]
  rw [if_neg (by rintro (e | e); exact k3 e; exact k4 e)] at h3
  cases h3
theorem tread_text {t : Tm} (h : okTm t = true) : tread (ttext t) = some t := by
  by_cases h0 : t.k = 0
  · obtain ⟨k, x, ty, la⟩ := t
    simp only at h0
    subst h0
    unfold okTm at h
    simp only at h
    rw [if_neg (by decide)] at h
    simp only [Bool.and_eq_true, if_true] at h
    obtain ⟨⟨h1, h2⟩, h3⟩ := h
    obtain rfl := isEmpty_nil h1
    obtain rfl := isEmpty_nil h2
    obtain rfl := isEmpty_nil h3
    rfl
  have h1 := tpre_text h h0
  unfold tread
  rw [h1]
  cases hh : ttext t with
  | nil => rw [hh] at h1; cases h1
  | cons a l => rfl
theorem behindR_text {x r : List UInt8} {t : Tm} (hx : okText x = true) (h : behindR ⟨2, x, [], []⟩ r = (t, [])) : r = tail2 t ∧ okTm t = true ∧ t.k = 2 ∧ t.x = x := by
  unfold behindR at h
  split at h
  · simp only [Prod.mk.injEq] at h
    obtain ⟨rfl, _⟩ := h
    refine ⟨rfl, ?_, rfl, rfl⟩
    simp [okTm, hx]
  rename_i a r1
  by_cases h1 : a.toNat = 94
  · rw [if_pos h1] at h
    split at h
    · simp at h
    rename_i b r2
    by_cases h2 : b.toNat = 94
    · rw [if_pos h2] at h
      split at h
      · rename_i p q hp
        simp only [Prod.mk.injEq] at h
        obtain ⟨rfl, rfl⟩ := h
        obtain ⟨e1, e2⟩ := iriR_some hp
        have hne : p.isEmpty = false := by
          have := e2
          unfold okIri at this
          simp only [Bool.and_eq_true, Bool.not_eq_true'] at this
          exact this.1.1
        refine ⟨?_, ?_, rfl, rfl⟩
        · rw [e1, byte_eq h1 (by decide), byte_eq h2 (by decide)]
          simp [tail2, hne]
        simp [okTm, hx, e2]
      simp at h
    rw [if_neg h2] at h
    simp at h
  rw [if_neg h1] at h
  by_cases h2 : a.toNat = 64
  · rw [if_pos h2] at h
    by_cases h3 : okLang (r1.takeWhile langB) = true
    · rw [if_pos h3] at h
      simp only [Prod.mk.injEq] at h
      obtain ⟨rfl, h4⟩ := h
      have e : r1 = r1.takeWhile langB := by
        conv => lhs; rw [← List.takeWhile_append_dropWhile (p := langB) (l := r1), h4, List.append_nil]
      have hne : (r1.takeWhile langB).isEmpty = false := by
        have := h3
        unfold okLang at this
        simp only [Bool.and_eq_true, Bool.not_eq_true'] at this
        exact this.1.1
      refine ⟨?_, ?_, rfl, rfl⟩
      · rw [byte_eq h2 (by decide)]
        simp [tail2, hne]
        exact e
      simp [okTm, hx, h3]
    rw [if_neg h3] at h
    simp at h
  rw [if_neg h2] at h
  simp at h
theorem tread_some {l : List UInt8} {t : Tm} (h : tread l = some t) : l = ttext t ∧ okTm t = true := by
  unfold tread at h
  by_cases h0 : l.isEmpty = true
  · rw [if_pos h0] at h
    obtain rfl := Option.some.inj h
    rw [isEmpty_nil h0]
    exact ⟨rfl, rfl⟩
  rw [if_neg h0] at h
  split at h
  · rename_i t' hp
    obtain rfl := Option.some.inj h
    unfold tpre at hp
    split at hp
    · cases hp
    rename_i c r
    by_cases h1 : c.toNat = 60
    · rw [if_pos h1] at hp
      obtain ⟨x, hx, he⟩ := Option.map_eq_some_iff.1 hp
      simp only [Prod.mk.injEq] at he
      obtain ⟨rfl, he⟩ := he
      obtain ⟨e1, e2⟩ := iriR_some (show iriR (c :: r) = some (x.1, x.2) from hx)
      rw [e1, he]
      exact ⟨rfl, by simp [okTm, e2]⟩
    rw [if_neg h1] at hp
    by_cases h2 : c.toNat = 34
    · rw [if_pos h2] at hp
      obtain ⟨x, hx, he⟩ := Option.bind_eq_some_iff.1 hp
      by_cases h3 : okText x.1 = true
      · rw [if_pos h3] at he
        obtain ⟨q1, q2, q3, q4⟩ := behindR_text h3 (Option.some.inj he)
        refine ⟨?_, q2⟩
        have e := litR_some _ r x.1 x.2 (Nat.le_refl _) hx
        obtain ⟨k, xx, ty, la⟩ := t'
        simp only at q3 q4
        subst q3 q4
        rw [e, q1, byte_eq h2 (by decide)]
        rfl
      rw [if_neg h3] at he; cases he
    rw [if_neg h2] at hp
    by_cases h3 : c.toNat = 63
    · rw [if_pos h3] at hp
      by_cases h4 : 0 < nameN r
      · rw [if_pos h4] at hp
        simp only [Option.some.injEq, Prod.mk.injEq] at hp
        obtain ⟨rfl, h5⟩ := hp
        have h6 := List.take_append_drop (nameN r) r
        rw [h5, List.append_nil] at h6
        refine ⟨?_, by simp [okTm, nameN_ok h4]⟩
        rw [byte_eq h3 (by decide)]
        show _ = 63 :: r.take (nameN r)
        rw [h6]
        rfl
      rw [if_neg h4] at hp; cases hp
    rw [if_neg h3] at hp
    by_cases h4 : c.toNat = 95
    · rw [if_pos h4] at hp
      split at hp
      · cases hp
      rename_i d r1
      by_cases h5 : d.toNat = 58
      · rw [if_pos h5] at hp
        by_cases h6 : 0 < nameN r1
        · rw [if_pos h6] at hp
          simp only [Option.some.injEq, Prod.mk.injEq] at hp
          obtain ⟨rfl, h7⟩ := hp
          have h8 := List.take_append_drop (nameN r1) r1
          rw [h7, List.append_nil] at h8
          refine ⟨?_, by simp [okTm, nameN_ok h6]⟩
          rw [byte_eq h4 (by decide), byte_eq h5 (by decide)]
          show _ = 95 :: 58 :: r1.take (nameN r1)
          rw [h8]
          rfl
        rw [if_neg h6] at hp; cases hp
      rw [if_neg h5] at hp; cases hp
    rw [if_neg h4] at hp; cases hp
  cases h
end Go.Proofs.YtgabadlneeffkaaGreatDoor
