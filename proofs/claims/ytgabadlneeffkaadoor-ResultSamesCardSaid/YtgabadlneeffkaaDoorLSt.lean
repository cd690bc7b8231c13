/- Plain terms and their texts: what is right, what is written, what is read, and that what is written reads back. No program stands in it. -/
import Derived.Test.YtgabadlneeffkaaDoorLSq
namespace Go.Proofs.YtgabadlneeffkaaDoor

def isLet (b : UInt8) : Bool := (decide (97 ≤ b.toNat) && decide (b.toNat ≤ 122)) || (decide (65 ≤ b.toNat) && decide (b.toNat ≤ 90))
def isDig (b : UInt8) : Bool := decide (48 ≤ b.toNat) && decide (b.toNat ≤ 57)
def nameB (b : UInt8) : Bool := isLet b || isDig b || b.toNat == 95
def iriC (b : UInt8) : Bool := decide (33 ≤ b.toNat) && decide (b.toNat ≤ 126) && !([60, 62, 34, 123, 125, 124, 94, 96, 92].contains b.toNat)
def textB (b : UInt8) : Bool := (decide (32 ≤ b.toNat) && decide (b.toNat ≤ 126)) || b.toNat == 10 || b.toNat == 9
def langB (b : UInt8) : Bool := decide (97 ≤ b.toNat) && decide (b.toNat ≤ 122)
def okName : List UInt8 → Bool
  | [] => false
  | c :: r => isLet c && r.all nameB && decide (r.length ≤ 31)
def okIri (l : List UInt8) : Bool := !l.isEmpty && decide (l.length ≤ 4096) && l.all iriC
def okText (l : List UInt8) : Bool := decide (l.length ≤ 4096) && l.all textB
def okLang (l : List UInt8) : Bool := !l.isEmpty && decide (l.length ≤ 8) && l.all langB
/-- a term: its kind, its text, its type, its language -/
structure Tm where
  k : Int
  x : List UInt8
  ty : List UInt8
  la : List UInt8
deriving DecidableEq
def tm0 : Tm := ⟨0, [], [], []⟩
def okTm (t : Tm) : Bool :=
  if t.k = 2 then okText t.x && (t.ty.isEmpty || okIri t.ty) && (t.la.isEmpty || (t.ty.isEmpty && okLang t.la))
  else t.ty.isEmpty && t.la.isEmpty && (if t.k = 0 then t.x.isEmpty else if t.k = 1 then okIri t.x else if t.k = 3 ∨ t.k = 4 then okName t.x else false)

/-! ### writing -/
def escB (b : UInt8) : List UInt8 := if b.toNat = 34 then [92, 34] else if b.toNat = 92 then [92, 92] else if b.toNat = 10 then [92, 110] else if b.toNat = 9 then [92, 116] else [b]
def esc (l : List UInt8) : List UInt8 := l.flatMap escB
def tail2 (t : Tm) : List UInt8 := (if t.ty.isEmpty then [] else 94 :: 94 :: 60 :: (t.ty ++ [62])) ++ (if t.la.isEmpty then [] else 64 :: t.la)
def ttext (t : Tm) : List UInt8 :=
  if t.k = 1 then 60 :: (t.x ++ [62]) else if t.k = 3 then 95 :: 58 :: t.x else if t.k = 4 then 63 :: t.x
  else if t.k = 2 then 34 :: (esc t.x ++ 34 :: tail2 t) else []

/-! ### reading -/
def unescB (b : UInt8) : Option UInt8 := if b.toNat = 34 then some 34 else if b.toNat = 92 then some 92 else if b.toNat = 110 then some 10 else if b.toNat = 116 then some 9 else none
/-- behind the opening quote: the text, and what is behind the closing one -/
def litR : List UInt8 → Option (List UInt8 × List UInt8)
  | [] => none
  | b :: r =>
    if b.toNat = 34 then some ([], r)
    else if b.toNat = 92 then
      match r with
      | [] => none
      | c :: r' => match unescB c with
        | some d => (litR r').map fun x => (d :: x.1, x.2)
        | none => none
    else if b.toNat = 10 ∨ b.toNat = 9 then none
    else (litR r).map fun x => (b :: x.1, x.2)
/-- an IRI between < and >, and what is behind it -/
def iriR : List UInt8 → Option (List UInt8 × List UInt8)
  | [] => none
  | c :: r => if c.toNat = 60 then match cutC 62 r with
      | some (p, q) => if okIri p then some (p, q) else none
      | none => none
    else none
def nameN : List UInt8 → Nat
  | [] => 0
  | c :: r => if isLet c then 1 + ((r.take 31).takeWhile nameB).length else 0
def behindR (t : Tm) (r : List UInt8) : Tm × List UInt8 :=
  match r with
  | [] => (t, r)
  | a :: r1 =>
    if a.toNat = 94 then
      match r1 with
      | [] => (t, r)
      | b :: r2 => if b.toNat = 94 then (match iriR r2 with
          | some (p, q) => ({ t with ty := p }, q)
          | none => (t, r)) else (t, r)
    else if a.toNat = 64 then
      (if okLang (r1.takeWhile langB) then ({ t with la := r1.takeWhile langB }, r1.dropWhile langB) else (t, r))
    else (t, r)
def tpre : List UInt8 → Option (Tm × List UInt8)
  | [] => none
  | c :: r =>
    if c.toNat = 60 then (iriR (c :: r)).map fun x => (⟨1, x.1, [], []⟩, x.2)
    else if c.toNat = 34 then (litR r).bind fun x => if okText x.1 then some (behindR ⟨2, x.1, [], []⟩ x.2) else none
    else if c.toNat = 63 then (if 0 < nameN r then some (⟨4, r.take (nameN r), [], []⟩, r.drop (nameN r)) else none)
    else if c.toNat = 95 then
      match r with
      | [] => none
      | d :: r1 => if d.toNat = 58 then (if 0 < nameN r1 then some (⟨3, r1.take (nameN r1), [], []⟩, r1.drop (nameN r1)) else none) else none
    else none
def tread (l : List UInt8) : Option Tm :=
  if l.isEmpty then some tm0 else match tpre l with
    | some (t, []) => some t
    | _ => none

/-! ### what is written reads back -/
theorem byte_eq {b : UInt8} {n : Nat} (h : b.toNat = n) (_ : n < 256) : b = UInt8.ofNat n := by
  rw [← h]; exact (UInt8.ofNat_toNat).symm
theorem litR_cons (b : UInt8) (r : List UInt8) : litR (b :: r) =
    if b.toNat = 34 then some ([], r)
    else if b.toNat = 92 then
      match r with
      | [] => none
      | c :: r' => match unescB c with
        | some d => (litR r').map fun x => (d :: x.1, x.2)
        | none => none
    else if b.toNat = 10 ∨ b.toNat = 9 then none
    else (litR r).map fun x => (b :: x.1, x.2) := by rw [litR.eq_def]
theorem tpre_cons (c : UInt8) (r : List UInt8) : tpre (c :: r) =
    if c.toNat = 60 then (iriR (c :: r)).map fun x => (⟨1, x.1, [], []⟩, x.2)
    else if c.toNat = 34 then (litR r).bind fun x => if okText x.1 then some (behindR ⟨2, x.1, [], []⟩ x.2) else none
    else if c.toNat = 63 then (if 0 < nameN r then some (⟨4, r.take (nameN r), [], []⟩, r.drop (nameN r)) else none)
    else if c.toNat = 95 then
      match r with
      | [] => none
      | d :: r1 => if d.toNat = 58 then (if 0 < nameN r1 then some (⟨3, r1.take (nameN r1), [], []⟩, r1.drop (nameN r1)) else none) else none
    else none := by rw [tpre.eq_def]
theorem behindR_cons (t : Tm) (a : UInt8) (r1 : List UInt8) : behindR t (a :: r1) =
    if a.toNat = 94 then
      match r1 with
      | [] => (t, a :: r1)
      | b :: r2 => if b.toNat = 94 then (match iriR r2 with
          | some (p, q) => ({ t with ty := p }, q)
          | none => (t, a :: r1)) else (t, a :: r1)
    else if a.toNat = 64 then
      (if okLang (r1.takeWhile langB) then ({ t with la := r1.takeWhile langB }, r1.dropWhile langB) else (t, a :: r1))
    else (t, a :: r1) := by rw [behindR.eq_def]
theorem litR_esc (b : UInt8) (r : List UInt8) : litR (escB b ++ r) = (litR r).map fun x => (b :: x.1, x.2) := by
  unfold escB
  by_cases h1 : b.toNat = 34
  · obtain rfl := byte_eq h1 (by decide)
    rw [if_pos h1, List.cons_append, List.cons_append, List.nil_append, litR_cons, if_neg (by decide), if_pos (by decide)]
    rfl
  by_cases h2 : b.toNat = 92
  · obtain rfl := byte_eq h2 (by decide)
    rw [if_neg h1, if_pos h2, List.cons_append, List.cons_append, List.nil_append, litR_cons, if_neg (by decide), if_pos (by decide)]
    rfl
  by_cases h3 : b.toNat = 10
  · obtain rfl := byte_eq h3 (by decide)
    rw [if_neg h1, if_neg h2, if_pos h3, List.cons_append, List.cons_append, List.nil_append, litR_cons, if_neg (by decide), if_pos (by decide)]
    rfl
  by_cases h4 : b.toNat = 9
  · obtain rfl := byte_eq h4 (by decide)
    rw [if_neg h1, if_neg h2, if_neg h3, if_pos h4, List.cons_append, List.cons_append, List.nil_append, litR_cons, if_neg (by decide), if_pos (by decide)]
    rfl
  rw [if_neg h1, if_neg h2, if_neg h3, if_neg h4, List.cons_append, List.nil_append, litR_cons, if_neg h1, if_neg h2, if_neg (by omega)]
theorem litR_mk : ∀ (l r : List UInt8), litR (esc l ++ 34 :: r) = some (l, r)
  | [], r => by rw [show esc [] = [] from rfl, List.nil_append, litR_cons, if_pos (by decide)]
  | b :: l, r => by
    rw [show esc (b :: l) = escB b ++ esc l from rfl, List.append_assoc, litR_esc, litR_mk l r]
    rfl
theorem all_not_mem {p : UInt8 → Bool} {l : List UInt8} {c : UInt8} (h : l.all p = true) (hc : p c = false) : c ∉ l := by
  intro hm
  have := List.all_eq_true.1 h c hm
  rw [hc] at this
  cases this
theorem okIri_all {l : List UInt8} (h : okIri l = true) : l.all iriC = true := by
  unfold okIri at h
  simp only [Bool.and_eq_true] at h
  exact h.2
theorem iriR_mk {p : List UInt8} (h : okIri p = true) (q : List UInt8) : iriR (60 :: (p ++ 62 :: q)) = some (p, q) := by
  rw [iriR, if_pos (by decide), cutC_mk (all_not_mem (okIri_all h) (by decide))]
  simp only
  rw [if_pos h]
theorem iriR_some {l p q : List UInt8} (h : iriR l = some (p, q)) : l = 60 :: (p ++ 62 :: q) ∧ okIri p = true := by
  unfold iriR at h
  split at h
  · cases h
  rename_i c r
  by_cases h1 : c.toNat = 60
  · rw [if_pos h1] at h
    split at h
    · rename_i p' q' hc
      by_cases h2 : okIri p' = true
      · rw [if_pos h2] at h
        simp only [Option.some.injEq, Prod.mk.injEq] at h
        obtain ⟨rfl, rfl⟩ := h
        rw [byte_eq h1 (by decide), (cutC_some hc).1]
        exact ⟨rfl, h2⟩
      rw [if_neg h2] at h; cases h
    cases h
  rw [if_neg h1] at h; cases h
theorem okName_nameN {l : List UInt8} (h : okName l = true) : nameN l = l.length ∧ 0 < l.length := by
  unfold okName at h
  split at h
  · cases h
  rename_i c r
  simp only [Bool.and_eq_true, decide_eq_true_eq] at h
  rw [show nameN (c :: r) = if isLet c then 1 + ((r.take 31).takeWhile nameB).length else 0 from rfl, if_pos h.1.1, List.take_of_length_le h.2]
  have : r.takeWhile nameB = r := by
    have := h.1.2
    rw [List.all_eq_true] at this
    rw [← List.append_nil r, List.takeWhile_append_of_pos (by simpa using this)]
    simp
  rw [this, List.length_cons]
  omega
theorem nameN_le (l : List UInt8) : nameN l ≤ l.length := by
  unfold nameN
  split
  · simp
  rename_i c r
  split
  · have h1 := (List.takeWhile_prefix nameB (l := r.take 31)).length_le
    have h2 := List.length_take_le 31 r
    rw [List.length_take] at h1
    rw [List.length_cons]
    omega
  omega
theorem takeWhile_all (p : UInt8 → Bool) : ∀ l : List UInt8, (l.takeWhile p).all p = true
  | [] => rfl
  | b :: l => by
    by_cases h : p b = true
    · rw [List.takeWhile_cons_of_pos h, List.all_cons, h, takeWhile_all p l]; rfl
    rw [List.takeWhile_cons_of_neg h]; rfl
theorem take_of_prefix {a l : List UInt8} (h : a <+: l) : l.take a.length = a := by
  obtain ⟨t, rfl⟩ := h
  simp
theorem nameN_ok {l : List UInt8} (h : 0 < nameN l) : okName (l.take (nameN l)) = true := by
  unfold nameN at h ⊢
  split
  · rename_i l0
    simp at h
  rename_i c r
  by_cases hc : isLet c = true
  · rw [if_pos hc, Nat.add_comm, List.take_succ_cons]
    have hp : (r.take 31).takeWhile nameB <+: r := (List.takeWhile_prefix nameB).trans (List.take_prefix 31 r)
    rw [take_of_prefix hp, okName, hc, takeWhile_all]
    have h1 := (List.takeWhile_prefix nameB (l := r.take 31)).length_le
    rw [List.length_take] at h1
    simp
    omega
  simp only at h
  rw [if_neg hc] at h
  omega
theorem okLang_all {l : List UInt8} (h : okLang l = true) : l.all langB = true := by
  unfold okLang at h
  simp only [Bool.and_eq_true] at h
  exact h.2
theorem takeWhile_full {p : UInt8 → Bool} {l : List UInt8} (h : l.all p = true) : l.takeWhile p = l ∧ l.dropWhile p = [] := by
  induction l with
  | nil => exact ⟨rfl, rfl⟩
  | cons b l ih =>
    rw [List.all_cons, Bool.and_eq_true] at h
    rw [List.takeWhile_cons_of_pos h.1, List.dropWhile_cons_of_pos h.1, (ih h.2).1]
    exact ⟨rfl, (ih h.2).2⟩
theorem isEmpty_nil {l : List UInt8} (h : l.isEmpty = true) : l = [] := List.isEmpty_iff.1 h
theorem tpre_text {t : Tm} (h : okTm t = true) (h0 : t.k ≠ 0) : tpre (ttext t) = some (t, []) := by
  obtain ⟨k, x, ty, la⟩ := t
  unfold okTm at h
  simp only at h h0
  by_cases k2 : k = 2
  · subst k2
    rw [if_pos rfl] at h
    simp only [Bool.and_eq_true, Bool.or_eq_true] at h
    obtain ⟨⟨hx, hty⟩, hla⟩ := h
    have e : ttext ⟨2, x, ty, la⟩ = 34 :: (esc x ++ 34 :: tail2 ⟨2, x, ty, la⟩) := rfl
    rw [e, tpre_cons, if_neg (by decide), if_pos (by decide), litR_mk]
    simp only [Option.bind_some]
    rw [if_pos hx]
    congr 1
    unfold tail2
    simp only
    rcases hty with hty | hty
    · obtain rfl := isEmpty_nil hty
      rcases hla with hla | ⟨_, hla⟩
      · obtain rfl := isEmpty_nil hla
        rfl
      have hne : la.isEmpty = false := by
        unfold okLang at hla
        simp only [Bool.and_eq_true, Bool.not_eq_true'] at hla
        exact hla.1.1
      rw [hne]
      simp only [List.isEmpty_nil, if_true, List.nil_append, Bool.false_eq_true, if_false]
      rw [behindR_cons]
      rw [if_neg (by decide), if_pos (by decide), (takeWhile_full (okLang_all hla)).1, (takeWhile_full (okLang_all hla)).2, if_pos hla]
    have hne : ty.isEmpty = false := by
      have := hty
      unfold okIri at this
      simp only [Bool.and_eq_true, Bool.not_eq_true'] at this
      exact this.1.1
    have hla' : la = [] := by
      rcases hla with hla | ⟨hh, _⟩
      · exact isEmpty_nil hla
      rw [hne] at hh; cases hh
    subst hla'
    rw [hne]
    simp only [List.isEmpty_nil, if_true, List.append_nil, Bool.false_eq_true, if_false]
    rw [behindR_cons]
    rw [if_pos (by decide)]
    simp only
    rw [if_pos (by decide)]
    rw [iriR_mk hty]
  rw [if_neg k2] at h
  simp only [Bool.and_eq_true] at h
  obtain ⟨⟨h1, h2⟩, h3⟩ := h
  obtain rfl := isEmpty_nil h1
  obtain rfl := isEmpty_nil h2
  rw [if_neg h0] at h3
  by_cases k1 : k = 1
  · subst k1
    rw [if_pos rfl] at h3
    have e : ttext ⟨1, x, [], []⟩ = 60 :: (x ++ [62]) := rfl
    rw [e, tpre_cons, if_pos (by decide), iriR_mk h3]
    rfl
  rw [if_neg k1] at h3
  by_cases k3 : k = 3
  · subst k3
    rw [if_pos (Or.inl rfl)] at h3
    have e : ttext ⟨3, x, [], []⟩ = 95 :: 58 :: x := rfl
    obtain ⟨n1, n2⟩ := okName_nameN h3
    rw [e, tpre_cons, if_neg (by decide), if_neg (by decide), if_neg (by decide), if_pos (by decide)]
    simp only
    rw [if_pos (by decide), n1, if_pos n2, List.take_length, List.drop_length]
  by_cases k4 : k = 4
  · subst k4
    rw [if_pos (Or.inr rfl)] at h3
    have e : ttext ⟨4, x, [], []⟩ = 63 :: x := rfl
    obtain ⟨n1, n2⟩ := okName_nameN h3
    rw [e, tpre_cons, if_neg (by decide), if_neg (by decide), if_pos (by decide), n1, if_pos n2, List.take_length, List.drop_length]
  rw [if_neg (by rintro (e | e); exact k3 e; exact k4 e)] at h3
  cases h3
end Go.Proofs.YtgabadlneeffkaaDoor
