/- Pairs read and written, requests put and got: what the program's functions and the reference's come to. -/
import Derived.Test.YtlkpdfbmklanoaaDoorPe
namespace Go.Proofs.YtlkpdfbmklanoaaDoor.Q
open Go.RowKit Go.Lib Go.Proofs.YtlkpdfbmklanoaaDoor Go.Proofs.YtlkpdfbmklanoaaDoorW.PrintWords Go.Proofs.YtlkpdfbmklanoaaDoorW.PrintLast

/-! ### the reference's decoding -/
def raw1 (c : UInt8) (r : List UInt8) : Option (UInt8 × List UInt8) := if c = 37 then
      (match r with
      | x :: y :: r' => (match unhex x, unhex y with
        | some a, some b => some (UInt8.ofNat (16 * a + b), r')
        | _, _ => none)
      | _ => none)
    else some (c, r)
theorem raw1_ne {c : UInt8} (h : c ≠ 37) (r : List UInt8) : raw1 c r = some (c, r) := by
  unfold raw1
  rw [if_neg h]
theorem raw1_two (x y : UInt8) (r : List UInt8) : raw1 37 (x :: y :: r) = (match unhex x, unhex y with
        | some a, some b => some (UInt8.ofNat (16 * a + b), r)
        | _, _ => none) := rfl
theorem raw1_nil : raw1 37 [] = none := rfl
theorem raw1_one (x : UInt8) : raw1 37 [x] = none := rfl
def rawF : Nat → List UInt8 → Option (List UInt8)
  | _, [] => some []
  | 0, _ :: _ => none
  | n + 1, c :: r => match raw1 c r with
    | some (b, r') => (rawF n r').map (b :: ·)
    | none => none
theorem rawF_enc : ∀ (m : List UInt8) (n : Nat), m.length ≤ n → rawF n (enc m) = some m
  | [], n, _ => by cases n <;> rfl
  | b :: m, 0, h => by simp at h
  | b :: m, n + 1, h => by
    have ih := rawF_enc m n (by simpa using h)
    rw [enc_cons, encB]
    by_cases hp : plain b = true
    · rw [if_pos hp, List.singleton_append, rawF, raw1_ne (by intro e; subst e; exact absurd hp (by decide))]
      simp only [ih, Option.map_some]
    · rw [if_neg hp]
      have h1 := b.toNat_lt
      have hv : 16 * (b.toNat / 16) + b.toNat % 16 = b.toNat := by omega
      have e : raw1 37 (hexd (b.toNat / 16) :: hexd (b.toNat % 16) :: enc m) = some (b, enc m) := by
        unfold raw1
        simp [hexd_unhex (b.toNat / 16) (by omega), hexd_unhex (b.toNat % 16) (by omega), hv]
      simp only [List.cons_append, List.nil_append, rawF, e, ih, Option.map_some]
def rawR (acc : List UInt8) (s : ByteArray) (o : Option (List UInt8)) : ByteArray × Bool := match o with
  | some m => if enc (acc ++ m) = s.data.toList then (ofL (acc ++ m), true) else (⟨#[]⟩, false)
  | none => (⟨#[]⟩, false)
theorem rawR_cons (acc : List UInt8) (s : ByteArray) (c : UInt8) (o : Option (List UInt8)) : rawR acc s (o.map (c :: ·)) = rawR (acc ++ [c]) s o := by
  cases o with
  | none => rfl
  | some m => simp [rawR]
theorem rraw_loop (s : ByteArray) (hs : s.size ≤ 35184372088832) : ∀ (n : Nat) (r : List UInt8) (i : Nat) (acc : List UInt8), r.length ≤ n → s.data.toList.drop i = r → acc.length + r.length ≤ s.size →
    Ev (fun k => legationref15_Decode.l0 k s (nat acc) (i : Int)) (rawR acc s (rawF n r)) := by
  have fin : ∀ (n : Nat) (i : Nat) (acc : List UInt8), s.data.toList.drop i = [] → acc.length ≤ s.size → Ev (fun k => legationref15_Decode.l0 k s (nat acc) (i : Int)) (rawR acc s (rawF n [])) := by
    intro n i acc hd ha
    have hi := size_of_drop hd
    refine Ev.step (fun k => by rw [legationref15_Decode.l0]) ?_
    simp only [if_neg (show ¬ ((i : Int) < (s.size : Int)) by omega), strOfNums_nat]
    refine Ev.bind (rEncode (ofL acc) (by rw [ofL_size]; omega)) ?_
    have hf : rawF n [] = some [] := by cases n <;> rfl
    rw [ofL_toList, hf, rawR, List.append_nil]
    simp only [toList_data, ofL_toList]
    by_cases h : enc acc = s.data.toList
    · simp only [if_pos h]; exact Ev.now _
    · simp only [if_neg h]; exact Ev.now _
  intro n
  induction n with
  | zero =>
    intro r i acc hl hd ha
    obtain rfl : r = [] := List.length_eq_zero_iff.1 (Nat.le_zero.1 hl)
    exact fin 0 i acc hd (by simpa using ha)
  | succ n ih =>
    intro r i acc hl hd ha
    cases r with
    | nil => exact fin (n + 1) i acc hd (by simpa using ha)
    | cons c r =>
      obtain ⟨hb, hi, hr⟩ := bt_of_drop hd
      simp only [List.length_cons] at hl ha
      have hlen : (nat acc).length < 140737488355328 := by rw [nat_length]; omega
      refine Ev.step (fun k => by rw [legationref15_Decode.l0]) ?_
      simp only [if_pos (show (i : Int) < (s.size : Int) by omega), if_pos (show (0 : Int) ≤ (i : Int) by omega), hb, wrap_succ (show i < 4611686018427387904 by omega), wrap_plus (show i < 4611686018427387904 by omega)]
      rw [rawF]
      by_cases h37 : c = 37
      · subst h37
        simp only [if_pos (toNat_inj37.2 rfl)]
        match r, hr, hl, ha with
        | [], hr, hl, ha =>
          have hz := size_of_drop hr
          simp only [if_pos (show ((i + 2 : Nat) : Int) ≥ (s.size : Int) by omega), raw1_nil]
          refine Ev.step (fun k => by rw [legationref15_Decode.j1]) ?_
          simp only [if_true]
          exact Ev.now _
        | [x], hr, hl, ha =>
          obtain ⟨_, _, hr1⟩ := bt_of_drop hr
          have hz := size_of_drop hr1
          simp only [if_pos (show ((i + 2 : Nat) : Int) ≥ (s.size : Int) by omega), raw1_one]
          refine Ev.step (fun k => by rw [legationref15_Decode.j1]) ?_
          simp only [if_true]
          exact Ev.now _
        | x :: y :: r', hr, hl, ha =>
          obtain ⟨hb1, hi1, hr1⟩ := bt_of_drop hr
          obtain ⟨hb2, hi2, hr2⟩ := bt_of_drop hr1
          simp only [if_neg (show ¬ ((i + 2 : Nat) : Int) ≥ (s.size : Int) by omega), if_pos (show (0 : Int) ≤ ((i + 1 : Nat) : Int) by omega), if_pos (show ((i + 1 : Nat) : Int) < (s.size : Int) by omega), if_pos (show (0 : Int) ≤ ((i + 2 : Nat) : Int) by omega), if_pos (show ((i + 2 : Nat) : Int) < (s.size : Int) by omega), hb1, hb2, raw1_two]
          refine Ev.bind (rvalue_ev x) ?_
          cases hx : unhex x with
          | none =>
            simp only [if_pos (show (-1 : Int) < 0 by decide)]
            refine Ev.step (fun k => by rw [legationref15_Decode.j1]) ?_
            simp only [if_true]
            exact Ev.now _
          | some a =>
            simp only [if_neg (show ¬ ((a : Int) < 0) by omega)]
            refine Ev.bind (rvalue_ev y) ?_
            cases hy : unhex y with
            | none =>
              simp only [decide_eq_true (show (-1 : Int) < 0 by decide)]
              refine Ev.step (fun k => by rw [legationref15_Decode.j1]) ?_
              simp only [if_true]
              exact Ev.now _
            | some b =>
              simp only [decide_eq_false (show ¬ ((b : Int) < 0) by omega)]
              refine Ev.step (fun k => by rw [legationref15_Decode.j1]) ?_
              simp only [Bool.false_eq_true, if_false, wrap_succ (show i < 4611686018427387904 by omega), wrap_plus (show i < 4611686018427387904 by omega), wrap_succ (show i + 2 < 4611686018427387904 by omega),
                if_pos (show (0 : Int) ≤ ((i + 1 : Nat) : Int) by omega), if_pos (show ((i + 1 : Nat) : Int) < (s.size : Int) by omega), if_pos (show (0 : Int) ≤ ((i + 2 : Nat) : Int) by omega), if_pos (show ((i + 2 : Nat) : Int) < (s.size : Int) by omega), hb1, hb2]
              refine Ev.bind (rvalue_ev x) ?_
              refine Ev.bind (rvalue_ev y) ?_
              simp only [hx, hy, add_hex a b (unhex_lt hx) (unhex_lt hy), if_pos hlen]
              simp only [List.length_cons] at hl ha
              have h := ih r' (i + 2 + 1) (acc ++ [UInt8.ofNat (16 * a + b)]) (by omega) hr2 (by simp; omega)
              rw [nat_append] at h
              simp only [rawR_cons]
              exact h
      · simp only [if_neg (fun h => h37 (toNat_inj37.1 h)), raw1_ne h37, if_pos hlen]
        have h := ih r (i + 1) (acc ++ [c]) (by omega) hr (by simp; omega)
        rw [nat_append] at h
        rw [rawR_cons]
        exact h
def decB (l : List UInt8) : ByteArray × Bool := match dec l with
  | some m => (ofL m, true)
  | none => (⟨#[]⟩, false)
theorem rDecode (s : ByteArray) (hs : s.size ≤ 35184372088832) : Ev (fun k => legationref15_Decode.f k s) (decB s.data.toList) := by
  have h := rraw_loop s hs s.data.toList.length s.data.toList 0 [] (Nat.le_refl _) rfl (by simp [size_toList])
  have e : rawR [] s (rawF s.data.toList.length s.data.toList) = decB s.data.toList := by
    unfold decB
    cases hd : dec s.data.toList with
    | some m =>
      have h1 := (dec_iff _ _).1 hd
      have h2 := rawF_enc m s.data.toList.length (by rw [h1]; exact (enc_length m).1)
      rw [← h1] at h2
      rw [h2, rawR, List.nil_append, if_pos h1.symm]
    | none =>
      cases hr : rawF s.data.toList.length s.data.toList with
      | none => rfl
      | some m =>
        rw [rawR, List.nil_append, if_neg]
        intro h3
        rw [(dec_iff _ m).2 h3.symm] at hd
        cases hd
  rw [e] at h
  unfold legationref15_Decode.f
  exact h

/-! ### one pair -/
def pairL (l : List UInt8) : Option (List UInt8 × List UInt8) := match cutC 61 l with
  | some (p, r) => match dec p, dec r with
    | some a, some b => some (a, b)
    | _, _ => none
  | none => none
def toPair (x : List UInt8 × List UInt8) : S39 := ⟨ofL x.1, ofL x.2⟩
def encP (x : List UInt8 × List UInt8) : List UInt8 := enc x.1 ++ 61 :: enc x.2
theorem pairL_iff (l : List UInt8) (x : List UInt8 × List UInt8) : pairL l = some x ↔ l = encP x := by
  constructor
  · intro h
    unfold pairL at h
    split at h
    · rename_i p r hc
      split at h
      · rename_i a b ha hb
        simp only [Option.some.injEq] at h
        subst h
        rw [(cutC_some hc).1, (dec_iff _ _).1 ha, (dec_iff _ _).1 hb]
        rfl
      · cases h
    · cases h
  · rintro rfl
    unfold pairL encP
    rw [cutC_mk (enc_no _).2]
    simp only [(dec_iff _ _).2 rfl]
def readA : List S39 → List (List UInt8) → List S39 × Int
  | acc, [] => if acc.length > 64 then ([], 3) else (acc, 0)
  | acc, p :: ps => match pairL p with
    | some x => readA (acc ++ [toPair x]) ps
    | none => ([], 2)
theorem readA_some : ∀ (ps : List (List UInt8)) (acc L : List S39), readA acc ps = (L, 0) → ∃ xs : List (List UInt8 × List UInt8), L = acc ++ xs.map toPair ∧ ps = xs.map encP
  | [], acc, L, h => by
    unfold readA at h
    split at h
    · cases h
    · simp only [Prod.mk.injEq, and_true] at h
      exact ⟨[], by simp [h], rfl⟩
  | p :: ps, acc, L, h => by
    unfold readA at h
    split at h
    · rename_i x hx
      obtain ⟨xs, h1, h2⟩ := readA_some ps _ L h
      exact ⟨x :: xs, by simp [h1], by simp [h2, (pairL_iff _ _).1 hx]⟩
    · cases h
def readL (l : List UInt8) : List S39 × Int := if l = [] then ([], 0) else readA [] (splitC 38 l)

theorem ext_toList (s : ByteArray) (i j : Nat) : (s.extract i j).data.toList = (s.data.toList.drop i).take (j - i) := by
  rw [extract_data]
theorem rone_loop (s : ByteArray) (hs : s.size ≤ 35184372088832) : ∀ (r p : List UInt8), s.data.toList = p ++ r → 61 ∉ p →
    ∃ y, Ev (fun k => legationref15_one.l0 k s (p.length : Int)) y ∧ y.2.2 = (pairL s.data.toList).isSome ∧ ∀ x, pairL s.data.toList = some x → y = (ofL x.1, ofL x.2, true) := by
  intro r
  induction r with
  | nil =>
    intro p hp hn
    have hz : s.size = p.length := by rw [← size_toList, hp, List.append_nil]
    have hc : pairL s.data.toList = none := by
      unfold pairL
      rw [hp, List.append_nil, cutC_none.2 hn]
    refine ⟨(⟨#[]⟩, ⟨#[]⟩, false), Ev.step (fun k => by rw [legationref15_one.l0]) ?_, ?_⟩
    · simp only [if_neg (show ¬ ((p.length : Int) < (s.size : Int)) by omega)]
      exact Ev.now _
    · rw [hc]; exact ⟨rfl, fun x h => by cases h⟩
  | cons c r ih =>
    intro p hp hn
    have hd : s.data.toList.drop p.length = c :: r := by rw [hp, List.drop_left]
    obtain ⟨hb, hi, hr⟩ := bt_of_drop hd
    by_cases hc : c = 61
    · subst hc
      have hcut : cutC 61 s.data.toList = some (p, r) := by rw [hp]; exact cutC_mk hn
      have e1 : (s.extract 0 p.length).data.toList = p := by
        rw [ext_toList, hp]; simp
      have e2 : (s.extract (p.length + 1) s.size).data.toList = r := by
        rw [ext_toList, hr, List.take_of_length_le]
        rw [← size_toList, hp]; simp; omega
      have z1 : (s.extract 0 p.length).size ≤ 35184372088832 := by rw [← size_toList, e1]; omega
      have z2 : (s.extract (p.length + 1) s.size).size ≤ 35184372088832 := by
        rw [← size_toList, e2]
        have := size_toList s
        rw [hp] at this
        simp at this
        omega
      have d1 := rDecode _ z1
      have d2 := rDecode _ z2
      rw [e1] at d1
      rw [e2] at d2
      refine ⟨if (decB p).2 = true then ((decB p).1, (decB r).1, (decB r).2) else ((decB p).1, (decB r).1, false), Ev.step (fun k => by rw [legationref15_one.l0]) ?_, ?_, ?_⟩
      · simp only [if_pos (show (p.length : Int) < (s.size : Int) by omega), if_pos (show (0 : Int) ≤ (p.length : Int) by omega), hb, wrap_succ (show p.length < 4611686018427387904 by omega),
          if_pos (show (((61 : UInt8).toNat : Int) = 61) from rfl), if_pos (show (p.length : Int) ≤ (s.size : Int) by omega), if_pos (show (0 : Int) ≤ ((p.length + 1 : Nat) : Int) by omega), if_pos (show ((p.length + 1 : Nat) : Int) ≤ (s.size : Int) by omega), Int.toNat_natCast]
        refine Ev.bind d1 ?_
        refine Ev.bind d2 ?_
        split
        · exact Ev.now _
        · exact Ev.now _
      · unfold pairL
        rw [hcut]
        unfold decB
        simp only
        cases hp' : dec p <;> cases hr' : dec r <;> simp [hp', hr']
      · intro x hx
        unfold pairL at hx
        rw [hcut] at hx
        simp only at hx
        unfold decB
        cases hp' : dec p with
        | none => simp [hp'] at hx
        | some a => cases hr' : dec r with
          | none => simp [hp', hr'] at hx
          | some b =>
            simp only [hp', hr', Option.some.injEq] at hx
            subst hx
            rfl
    · obtain ⟨y, h1, h2⟩ := ih (p ++ [c]) (by rw [hp]; simp) (by simp only [List.mem_append, List.mem_singleton, not_or]; exact ⟨hn, fun e => hc e.symm⟩)
      refine ⟨y, Ev.step (fun k => by rw [legationref15_one.l0]) ?_, h2⟩
      have hc' : ¬ ((c.toNat : Int) = 61) := by
        intro h
        apply hc
        have h3 : c.toNat = (61 : UInt8).toNat := by
          have : c.toNat = 61 := by omega
          simpa using this
        exact UInt8.toNat_inj.1 h3
      simp only [if_pos (show (p.length : Int) < (s.size : Int) by omega), if_pos (show (0 : Int) ≤ (p.length : Int) by omega), hb, wrap_succ (show p.length < 4611686018427387904 by omega), if_neg hc']
      rw [List.length_append, List.length_singleton] at h1
      exact h1
theorem rOne (s : ByteArray) (hs : s.size ≤ 35184372088832) : ∃ y, Ev (fun k => legationref15_one.f k s) y ∧ y.2.2 = (pairL s.data.toList).isSome ∧ ∀ x, pairL s.data.toList = some x → y = (ofL x.1, ofL x.2, true) := by
  unfold legationref15_one.f
  exact rone_loop s hs s.data.toList [] rfl (by simp)

/-! ### the reference's reading -/
theorem readA_nil (acc : List S39) : readA acc [] = if acc.length > 64 then ([], 3) else (acc, 0) := by unfold readA; rfl
theorem rread_loop (s : ByteArray) (hs : s.size ≤ 4294967296) : ∀ (r p : List UInt8) (st : Nat) (acc : List S39), s.data.toList.drop st = p ++ r → 38 ∉ p → st + p.length + r.length = s.size → acc.length ≤ st →
    Ev (fun k => legationref15_Read.l0 k s acc (st : Int) ((st + p.length : Nat) : Int)) (readA acc (splitC 38 (p ++ r))) := by
  have piece : ∀ (p : List UInt8) (st : Nat) (acc : List S39) (q : List UInt8) (R : List S39 × Int), s.data.toList.drop st = p ++ q → st + p.length ≤ s.size → acc.length ≤ st →
      (∀ x, pairL p = some x → Ev (fun k => legationref15_Read.l0 k s (acc ++ [toPair x]) ((st + p.length + 1 : Nat) : Int) ((st + p.length + 1 : Nat) : Int)) R) → (pairL p = none → R = ([], 2)) →
      Ev (fun k => legationref15_Read.j1 k s acc (st : Int) ((st + p.length : Nat) : Int) false) R := by
    intro p st acc q R hd hz ha hk hn
    have e1 : (s.extract st (st + p.length)).data.toList = p := by
      rw [ext_toList, hd, Nat.add_sub_cancel_left, List.take_left']
      rfl
    obtain ⟨y, h1, h2, h3⟩ := rOne (s.extract st (st + p.length)) (by rw [← size_toList, e1]; omega)
    rw [e1] at h2 h3
    refine Ev.step (fun k => by rw [legationref15_Read.j1]) ?_
    simp only [Bool.false_eq_true, if_false, if_pos (show (0 : Int) ≤ (st : Int) by omega), if_pos (show (st : Int) ≤ ((st + p.length : Nat) : Int) by omega), if_pos (show ((st + p.length : Nat) : Int) ≤ (s.size : Int) by omega), Int.toNat_natCast]
    refine Ev.bind h1 ?_
    cases hp : pairL p with
    | none =>
      rw [hp] at h2
      simp only [Option.isSome_none] at h2
      simp only [h2, Bool.false_eq_true, if_false]
      rw [hn hp]
      exact Ev.now _
    | some x =>
      rw [hp] at h2
      simp only [Option.isSome_some] at h2
      simp only [h2, if_true, if_pos (show acc.length < 4398046511104 by omega), wrap_succ (show st + p.length < 4611686018427387904 by omega)]
      rw [h3 x hp]
      exact hk x hp
  intro r
  induction r with
  | nil =>
    intro p st acc hd hn hz ha
    rw [List.append_nil, splitC_miss 38 p hn]
    refine Ev.step (fun k => by rw [legationref15_Read.l0]) ?_
    simp only [List.length_nil] at hz
    simp only [if_pos (show ((st + p.length : Nat) : Int) ≤ (s.size : Int) by omega), if_neg (show ¬ ((st + p.length : Nat) : Int) < (s.size : Int) by omega)]
    refine piece p st acc [] _ hd (by omega) ha ?_ ?_
    · intro x hx
      rw [readA, hx]
      refine Ev.step (fun k => by rw [legationref15_Read.l0]) ?_
      simp only [if_neg (show ¬ ((st + p.length + 1 : Nat) : Int) ≤ (s.size : Int) by omega)]
      rw [readA_nil]
      by_cases h64 : (acc ++ [toPair x]).length > 64
      · simp only [if_pos (show ((acc ++ [toPair x]).length : Int) > 64 by omega), if_pos h64]
        exact Ev.now _
      · simp only [if_neg (show ¬ ((acc ++ [toPair x]).length : Int) > 64 by omega), if_neg h64]
        exact Ev.now _
    · intro hx
      rw [readA, hx]
  | cons c r ih =>
    intro p st acc hd hn hz ha
    simp only [List.length_cons] at hz
    have hd2 : s.data.toList.drop (st + p.length) = c :: r := by
      rw [← List.drop_drop, hd, List.drop_left]
    obtain ⟨hb, hi, hr⟩ := bt_of_drop hd2
    refine Ev.step (fun k => by rw [legationref15_Read.l0]) ?_
    simp only [if_pos (show ((st + p.length : Nat) : Int) ≤ (s.size : Int) by omega), if_pos (show ((st + p.length : Nat) : Int) < (s.size : Int) by omega), if_pos (show (0 : Int) ≤ ((st + p.length : Nat) : Int) by omega), hb]
    by_cases hc : c = 38
    · subst hc
      simp only [show (((38 : UInt8).toNat : Int) != 38) = false from rfl]
      rw [splitC_hit 38 p r hn]
      refine piece p st acc (38 :: r) _ hd (by omega) ha ?_ ?_
      · intro x hx
        rw [readA, hx]
        have h := ih [] (st + p.length + 1) (acc ++ [toPair x]) (by rw [hr]; rfl) (by simp) (by simp; omega) (by simp; omega)
        exact h
      · intro hx
        rw [readA, hx]
    · have hc' : ((c.toNat : Int) != 38) = true := by
        rw [bne_iff_ne]
        intro h
        apply hc
        have h3 : c.toNat = (38 : UInt8).toNat := by
          have : c.toNat = 38 := by omega
          simpa using this
        exact UInt8.toNat_inj.1 h3
      simp only [hc']
      refine Ev.step (fun k => by rw [legationref15_Read.j1]) ?_
      simp only [if_true, wrap_succ (show st + p.length < 4611686018427387904 by omega)]
      have h := ih (p ++ [c]) st acc (by rw [hd]; simp) (by simp only [List.mem_append, List.mem_singleton, not_or]; exact ⟨hn, fun e => hc e.symm⟩) (by simp; omega) ha
      rw [List.append_assoc, List.singleton_append, List.length_append, List.length_singleton] at h
      exact h
theorem rRead (s : ByteArray) (hs : s.size ≤ 4294967296) : Ev (fun k => legationref15_Read.f k s) (readL s.data.toList) := by
  unfold legationref15_Read.f readL
  simp only [Option.bind_some, toList_data]
  by_cases h : s.data.toList = []
  · simp only [if_pos h]
    exact Ev.now _
  · simp only [if_neg h]
    exact rread_loop s hs s.data.toList [] 0 [] rfl (by simp) (by simp [size_toList]) (by simp)
/-! ### the program's reading -/
theorem strcut_eq (s : List UInt8) (h : s.length < 4294967281) : strings_Cut.f (ofL s) (⟨#[61]⟩ : ByteArray) = some (match cutC 61 s with
    | some (p, r) => (ofL p, ofL r, true)
    | none => (ofL s, ofL [], false)) := by
  unfold strings_Cut.f
  rw [if_pos (by rw [ofL_size]; exact h)]
  have e : (⟨#[61]⟩ : ByteArray).data.toList = [61] := rfl
  rw [ofL_toList, e, cut_eq]
  cases cutC 61 s with
  | none => rfl
  | some x => rfl
theorem decR_nil (l : List UInt8) : decR [] (dec l) = match dec l with | some m => (ofL m, 0) | none => (⟨#[]⟩, 2) := by
  unfold decR
  cases dec l <;> rfl
theorem pread_loop (ps : List (List UInt8)) (hps : ∀ p ∈ ps, p.length < 4294967281) (hn : ps.length < 4398046511104) : ∀ (r : List (List UInt8)) (i : Nat) (acc : List S39), ps.drop i = r → acc.length ≤ i →
    Ev (fun k => percent_Read.l0 k acc (ps.map ofL) (ps.length : Int) (i : Int)) (readA acc r) := by
  intro r
  induction r with
  | nil =>
    intro i acc hd ha
    have hi : ps.length ≤ i := List.drop_eq_nil_iff.1 hd
    refine Ev.step (fun k => by rw [percent_Read.l0]) ?_
    simp only [if_neg (show ¬ ((i : Int) < (ps.length : Int)) by omega)]
    rw [readA_nil]
    by_cases h64 : acc.length > 64
    · simp only [if_pos (show (acc.length : Int) > 64 by omega), if_pos h64]
      exact Ev.now _
    · simp only [if_neg (show ¬ (acc.length : Int) > 64 by omega), if_neg h64]
      exact Ev.now _
  | cons p r ih =>
    intro i acc hd ha
    have hi : i < ps.length := by
      rcases Nat.lt_or_ge i ps.length with h' | h'
      · exact h'
      · rw [List.drop_eq_nil_of_le h'] at hd; cases hd
    have h2 := List.drop_eq_getElem_cons hi
    rw [hd] at h2
    injection h2 with h3 h4
    have hp : p.length < 4294967281 := by rw [h3]; exact hps _ (List.getElem_mem hi)
    have hrd : rdOf ByteArray.empty (ps.map ofL) (i : Int) = ofL p := by
      unfold rdOf
      rw [Int.toNat_natCast, List.getD_eq_getElem?_getD, List.getElem?_map, List.getElem?_eq_getElem hi, ← h3]
      rfl
    refine Ev.step (fun k => by rw [percent_Read.l0]) ?_
    simp only [if_pos (show (i : Int) < (ps.length : Int) by omega), if_pos (show (0 : Int) ≤ (i : Int) by omega), List.length_map, hrd, strcut_eq p hp, Option.bind_some, wrap_succ (show i < 4611686018427387904 by omega)]
    rw [readA]
    unfold pairL
    cases hc : cutC 61 p with
    | none =>
      simp only
      refine Ev.bind (pDecode _ (by rw [ofL_size]; omega)) ?_
      refine Ev.bind (pDecode _ (by rw [ofL_size]; simp)) ?_
      simp only [Bool.false_eq_true, if_false]
      exact Ev.now _
    | some x =>
      obtain ⟨a, b⟩ := x
      obtain ⟨e1, e2⟩ := cutC_some hc
      have hl : a.length + b.length + 1 = p.length := by rw [e1]; simp; omega
      simp only
      refine Ev.bind (pDecode _ (by rw [ofL_size]; omega)) ?_
      refine Ev.bind (pDecode _ (by rw [ofL_size]; omega)) ?_
      simp only [ofL_toList, decR_nil, if_true]
      cases hda : dec a with
      | none =>
        simp only [if_neg (show ¬ (2 : Int) = 0 by decide)]
        exact Ev.now _
      | some u =>
        cases hdb : dec b with
        | none =>
          simp only [if_true, if_neg (show ¬ (2 : Int) = 0 by decide)]
          exact Ev.now _
        | some v =>
          simp only [if_true, if_pos (show acc.length < 4398046511104 by omega)]
          exact ih (i + 1) (acc ++ [toPair (u, v)]) h4.symm (by simp; omega)
theorem splitC_pieces (c : UInt8) : ∀ (l : List UInt8), ∀ p ∈ splitC c l, p.length ≤ l.length
  | [], p, h => by simp [splitC] at h; simp [h]
  | b :: l, p, h => by
    unfold splitC at h
    split at h
    · rcases List.mem_cons.1 h with rfl | h
      · simp
      · have := splitC_pieces c l p h
        simp; omega
    · split at h
      · rename_i x t e
        rcases List.mem_cons.1 h with rfl | h
        · have := splitC_pieces c l x (by rw [e]; simp)
          simp; omega
        · have := splitC_pieces c l p (by rw [e]; simp [h])
          simp; omega
      · simp only [List.mem_singleton] at h
        subst h
        simp
theorem pRead (s : ByteArray) (hs : s.size < 4294967281) : Ev (fun k => percent_Read.f k s) (readL s.data.toList) := by
  unfold percent_Read.f readL
  simp only [toList_data]
  by_cases h : s.data.toList = []
  · simp only [if_pos h]
    exact Ev.now _
  · simp only [if_neg h]
    have e : strings_Split.f s (⟨#[38]⟩ : ByteArray) = some ((splitC 38 s.data.toList).map ofL) := by
      unfold strings_Split.f
      rw [if_pos ⟨hs, by decide⟩, show (⟨#[38]⟩ : ByteArray) = ofL [38] from rfl, splitB_eq]
    simp only [e, Option.bind_some, List.length_map]
    have hl := splitC_length 38 s.data.toList
    have hc := List.count_le_length (a := (38 : UInt8)) (l := s.data.toList)
    have hz := size_toList s
    exact pread_loop (splitC 38 s.data.toList) (fun p hp => by have := splitC_pieces 38 _ p hp; omega) (by omega) _ 0 [] rfl (by simp)
end Go.Proofs.YtlkpdfbmklanoaaDoor.Q
