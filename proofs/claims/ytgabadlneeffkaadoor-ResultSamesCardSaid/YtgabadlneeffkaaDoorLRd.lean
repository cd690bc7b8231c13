/- What the printed functions that read a term come to: tpre and tread. -/
import Derived.Test.YtgabadlneeffkaaDoorLVx
import Derived.Test.YtgabadlneeffkaaDoorLTe
namespace Go.Proofs.YtgabadlneeffkaaDoor.S
open Go.RowKit Go.Lib Go.Proofs.YtgabadlneeffkaaDoor Go.Proofs.YtgabadlneeffkaaDoorW.PrintWords Go.Proofs.YtgabadlneeffkaaDoorW.PrintLast
set_option linter.unusedVariables false
set_option linter.unusedSimpArgs false

theorem ext_ofL (s : ByteArray) (i j : Nat) : s.extract i j = ofL ((s.data.toList.drop i).take (j - i)) := by
  rw [← ext_toList, ofL_data]
theorem ext_end (s : ByteArray) (i : Nat) : s.extract i s.size = ofL (s.data.toList.drop i) := by
  rw [ext_ofL, List.take_of_length_le (by rw [List.length_drop, size_toList]; omega)]
def zero5 : Int × ByteArray × ByteArray × ByteArray × Int := (0, ⟨#[]⟩, ⟨#[]⟩, ⟨#[]⟩, 0)
def val5 (n : Nat) (x : Tm × List UInt8) : Int × ByteArray × ByteArray × ByteArray × Int := (x.1.k, ofL x.1.x, ofL x.1.ty, ofL x.1.la, ((n - x.2.length : Nat) : Int))
def preV (n : Nat) : Option (Tm × List UInt8) → Int × ByteArray × ByteArray × ByteArray × Int
  | some x => val5 n x
  | none => zero5
theorem hasP (l : List UInt8) (a b : UInt8) : Lib.hasPrefix l [a, b] = (match l with | x :: y :: _ => x == a && y == b | _ => false) := by
  match l with
  | [] => rfl
  | [x] => simp [Lib.hasPrefix, List.isPrefixOf]
  | x :: y :: r =>
    simp only [Lib.hasPrefix, List.isPrefixOf, Bool.and_true]
    rw [show (a == x) = (x == a) by rw [Bool.eq_iff_iff, beq_iff_eq, beq_iff_eq]; exact eq_comm, show (b == y) = (y == b) by rw [Bool.eq_iff_iff, beq_iff_eq, beq_iff_eq]; exact eq_comm]
theorem toN_eq {c : UInt8} {n : Nat} (hn : n < 256) : (c == UInt8.ofNat n) = (c.toNat == n) := by
  rw [Bool.eq_iff_iff, beq_iff_eq, beq_iff_eq]
  constructor
  · rintro rfl
    simp only [UInt8.toNat_ofNat']
    omega
  intro h
  exact byte_eq h hn
theorem tpre_iri {l : List UInt8} {p q : List UInt8} (h : iriR l = some (p, q)) : tpre l = some (⟨1, p, [], []⟩, q) := by
  cases l with
  | nil => cases h
  | cons c r =>
    have hc : c.toNat = 60 := by
      unfold iriR at h
      by_cases hc : c.toNat = 60
      · exact hc
      simp only [if_neg hc] at h; cases h
    rw [tpre_cons, if_pos hc, h]
    rfl
theorem behindR_k (t : Tm) (r : List UInt8) : (behindR t r).1.k = t.k := by
  cases r with
  | nil => rfl
  | cons a r1 =>
    rw [behindR_cons]
    by_cases h1 : a.toNat = 94
    · rw [if_pos h1]
      cases r1 with
      | nil => rfl
      | cons b r2 =>
        simp only
        by_cases h2 : b.toNat = 94
        · rw [if_pos h2]
          cases iriR r2 with
          | none => rfl
          | some x => rfl
        rw [if_neg h2]
    rw [if_neg h1]
    by_cases h2 : a.toNat = 64
    · rw [if_pos h2]
      by_cases h3 : okLang (r1.takeWhile langB) = true
      · rw [if_pos h3]
      rw [if_neg h3]
    rw [if_neg h2]
theorem tpre_k1 {l : List UInt8} {x : Tm} {q : List UInt8} (h : tpre l = some (x, q)) (hk : x.k = 1) : iriR l = some (x.x, q) ∧ x.ty = [] ∧ x.la = [] := by
  cases l with
  | nil => cases h
  | cons c r =>
    rw [tpre_cons] at h
    by_cases h1 : c.toNat = 60
    · rw [if_pos h1] at h
      obtain ⟨y, hy, he⟩ := Option.map_eq_some_iff.1 h
      simp only [Prod.mk.injEq] at he
      obtain ⟨rfl, rfl⟩ := he
      exact ⟨hy, rfl, rfl⟩
    rw [if_neg h1] at h
    by_cases h2 : c.toNat = 34
    · rw [if_pos h2] at h
      obtain ⟨y, hy, he⟩ := Option.bind_eq_some_iff.1 h
      by_cases h3 : okText y.1 = true
      · rw [if_pos h3] at he
        have := behindR_k ⟨2, y.1, [], []⟩ y.2
        rw [Option.some.inj he] at this
        rw [hk] at this
        cases this
      rw [if_neg h3] at he; cases he
    rw [if_neg h2] at h
    by_cases h3 : c.toNat = 63
    · rw [if_pos h3] at h
      by_cases h4 : 0 < nameN r
      · rw [if_pos h4] at h
        simp only [Option.some.injEq, Prod.mk.injEq] at h
        obtain ⟨rfl, _⟩ := h
        cases hk
      rw [if_neg h4] at h; cases h
    rw [if_neg h3] at h
    by_cases h4 : c.toNat = 95
    · rw [if_pos h4] at h
      cases r with
      | nil => cases h
      | cons d r1 =>
        simp only at h
        by_cases h5 : d.toNat = 58
        · rw [if_pos h5] at h
          by_cases h6 : 0 < nameN r1
          · rw [if_pos h6] at h
            simp only [Option.some.injEq, Prod.mk.injEq] at h
            obtain ⟨rfl, _⟩ := h
            cases hk
          rw [if_neg h6] at h; cases h
        rw [if_neg h5] at h; cases h
    rw [if_neg h4] at h; cases h
theorem iriR_len {l p q : List UInt8} (h : iriR l = some (p, q)) : q.length < l.length := by
  rw [(iriR_some h).1]
  simp
  omega

theorem lang_loop (s : ByteArray) (hs : s.size ≤ 35184372088832) (i : Nat) (hi : i < s.size) (x : ByteArray) : ∀ (r p : List UInt8) (P : Nat → TP), s.data.toList.drop (i + 1) = p ++ r →
    Ev (fun k => @term_behind.l0 ⟨P k⟩ k s (i : Int) ((i + 1 + p.length : Nat) : Int) 2 x ⟨#[]⟩ ⟨#[]⟩) (if okLang (p ++ r.takeWhile langB) = true then (2, x, ⟨#[]⟩, ofL (p ++ r.takeWhile langB), ((i + 1 + p.length + (r.takeWhile langB).length : Nat) : Int)) else (2, x, ⟨#[]⟩, ⟨#[]⟩, (i : Int))) := by
  intro r
  have stop : ∀ (p r : List UInt8), s.data.toList.drop (i + 1) = p ++ r → i + 1 + p.length ≤ s.size → Ev (fun k => (term_isLang.f k (s.extract (i + 1) (i + 1 + p.length))).bind fun t => (if t = true then (some ((2 : Int), x, (⟨#[]⟩ : ByteArray), s.extract (i + 1) (i + 1 + p.length), ((i + 1 + p.length : Nat) : Int))) else (some ((2 : Int), x, (⟨#[]⟩ : ByteArray), (⟨#[]⟩ : ByteArray), (i : Int))))) (if okLang p = true then (2, x, ⟨#[]⟩, ofL p, ((i + 1 + p.length : Nat) : Int)) else (2, x, ⟨#[]⟩, ⟨#[]⟩, (i : Int))) := by
    intro p r hd hl
    have e : s.extract (i + 1) (i + 1 + p.length) = ofL p := by
      rw [ext_ofL, hd, show i + 1 + p.length - (i + 1) = p.length by omega, List.take_left']
      rfl
    rw [e]
    refine Ev.bind (isLang_ev (ofL p)) ?_
    rw [ofL_toList]
    by_cases h : okLang p = true
    · simp only [h, if_true]; exact Ev.now _
    simp only [if_neg h]; exact Ev.now _
  induction r with
  | nil =>
    intro p P hd
    rw [List.append_nil] at hd
    have hl : i + 1 + p.length = s.size := by
      have := congrArg List.length hd
      rw [List.length_drop, size_toList] at this
      omega
    refine Ev.step (fun k => by letI : Inhabited TP := ⟨P (k + 1)⟩; rw [term_behind.l0]) ?_
    simp only [if_neg (show ¬ (((i + 1 + p.length : Nat) : Int) < (s.size : Int)) by omega), wrap_succ (show i < 9223372036854775807 by omega), if_pos (show (0 : Int) ≤ ((i + 1 : Nat) : Int) by omega), if_pos (show ((i + 1 : Nat) : Int) ≤ ((i + 1 + p.length : Nat) : Int) by omega), if_pos (show ((i + 1 + p.length : Nat) : Int) ≤ (s.size : Int) by omega), Int.toNat_natCast, List.takeWhile_nil, List.append_nil, List.length_nil, Nat.add_zero]
    exact stop p [] (by rw [List.append_nil]; exact hd) (by omega)
  | cons c r ih =>
    intro p P hd
    have hd2 : s.data.toList.drop (i + 1 + p.length) = c :: r := by
      rw [← List.drop_drop, hd, List.drop_left']
      rfl
    obtain ⟨hb, hlt, hr⟩ := bt_of_drop hd2
    refine Ev.step (fun k => by letI : Inhabited TP := ⟨P (k + 1)⟩; rw [term_behind.l0]) ?_
    simp only [if_pos (show (((i + 1 + p.length : Nat) : Int) < (s.size : Int)) by omega), if_pos (show (0 : Int) ≤ ((i + 1 + p.length : Nat) : Int) by omega), hb, wrap_succ (show i < 9223372036854775807 by omega), wrap_succ (show i + 1 + p.length < 9223372036854775807 by omega), if_pos (show (0 : Int) ≤ ((i + 1 : Nat) : Int) by omega), if_pos (show ((i + 1 : Nat) : Int) ≤ ((i + 1 + p.length : Nat) : Int) by omega), if_pos (show ((i + 1 + p.length : Nat) : Int) ≤ (s.size : Int) by omega), Int.toNat_natCast]
    by_cases hc : langB c = true
    · have h1 : 97 ≤ c.toNat ∧ c.toNat ≤ 122 := by simpa [langB] using hc
      simp only [if_pos (show (c.toNat : Int) ≥ 97 by omega), if_pos (show (c.toNat : Int) ≤ 122 by omega)]
      have h := ih (p ++ [c]) (fun k => P (k + 1)) (by rw [List.append_assoc]; exact hd)
      rw [List.takeWhile_cons_of_pos hc]
      rw [List.length_append, List.length_singleton, List.append_assoc] at h
      rw [List.length_cons]
      rw [show i + 1 + p.length + ((r.takeWhile langB).length + 1) = i + 1 + (p.length + 1) + (r.takeWhile langB).length by omega]
      exact h
    rw [List.takeWhile_cons_of_neg hc, List.append_nil, List.length_nil, Nat.add_zero]
    have h := stop p (c :: r) hd (by omega)
    by_cases h1 : 97 ≤ c.toNat
    · have h2 : ¬ c.toNat ≤ 122 := fun h2 => hc (by simp [langB, h1, h2])
      simp only [if_pos (show (c.toNat : Int) ≥ 97 by omega), if_neg (show ¬ ((c.toNat : Int) ≤ 122) by omega)]
      exact h
    simp only [if_neg (show ¬ ((c.toNat : Int) ≥ 97) by omega)]
    exact h
def IHP (P : Nat → TP) (n : Nat) : Prop := ∀ m : ByteArray, m.size < n → Ev (fun k => (P k).f m) (preV m.size (tpre m.data.toList))
theorem Ev.shift {α : Type} {g : Nat → Option α} {v : α} (h : Ev g v) : Ev (fun k => g (k + 1)) v := by
  obtain ⟨K, hK⟩ := h
  exact ⟨K, fun k hk => hK (k + 1) (by omega)⟩
theorem IHP.shift {P : Nat → TP} {n : Nat} (h : IHP P n) : IHP (fun k => P (k + 1)) n := fun m hm => Ev.shift (h m hm)
theorem behind_ev (P : Nat → TP) (s : ByteArray) (hs : s.size ≤ 35184372088832) (IH : IHP P s.size) (i : Nat) (hi : i ≤ s.size) (x : ByteArray) :
    Ev (fun k => @term_behind.f ⟨P k⟩ k 2 x ⟨#[]⟩ ⟨#[]⟩ s (i : Int)) (val5 s.size (behindR ⟨2, x.data.toList, [], []⟩ (s.data.toList.drop i))) := by
  unfold term_behind.f strings_HasPrefix.f
  simp only [if_pos (show (0 : Int) ≤ (i : Int) by omega), if_pos (show (i : Int) ≤ (s.size : Int) by omega), Option.bind_some, Int.toNat_natCast]
  have ex : (s.extract i s.size).data.toList = s.data.toList.drop i := by rw [ext_end, ofL_toList]
  rw [ex, show ([94, 94] : List UInt8) = [UInt8.ofNat 94, UInt8.ofNat 94] from rfl, hasP]
  have hx : ofL x.data.toList = x := ofL_data x
  have dull : ∀ r : List UInt8, s.data.toList.drop i = r → val5 s.size (⟨2, x.data.toList, [], []⟩, r) = (2, x, ⟨#[]⟩, ⟨#[]⟩, (i : Int)) := by
    intro r hr
    have hl := congrArg List.length hr
    rw [List.length_drop, size_toList] at hl
    unfold val5
    simp only [hx]
    rw [show s.size - r.length = i by omega]
    rfl
  have j0f : Ev (fun k => @term_behind.j0 ⟨P k⟩ k s (i : Int) false 2 x ⟨#[]⟩ ⟨#[]⟩) (2, x, ⟨#[]⟩, ⟨#[]⟩, (i : Int)) := by
    refine Ev.step (fun k => by letI : Inhabited TP := ⟨P (k + 1)⟩; rw [term_behind.j0]) ?_
    simp only [Bool.false_eq_true, if_false]
    exact Ev.now _
  cases hd : s.data.toList.drop i with
  | nil =>
    have hz := size_of_drop hd
    simp only [Bool.false_eq_true, if_false, if_neg (show ¬ ((i : Int) < (s.size : Int)) by omega)]
    rw [show behindR ⟨2, x.data.toList, [], []⟩ [] = (⟨2, x.data.toList, [], []⟩, []) from rfl, dull _ hd]
    exact j0f
  | cons a r1 =>
    obtain ⟨hb, hlt, hr⟩ := bt_of_drop hd
    rw [behindR_cons]
    by_cases h1 : a.toNat = 94
    · rw [if_pos h1]
      cases r1 with
      | nil =>
        simp only [Bool.false_eq_true, if_false, if_pos (show (i : Int) < (s.size : Int) by omega), hb, h1, show (((94 : Nat) : Int) == 64) = false from rfl]
        rw [dull _ hd]
        exact j0f
      | cons b r2 =>
        obtain ⟨hb2, hlt2, hr2⟩ := bt_of_drop hr
        simp only [toN_eq (show 94 < 256 by decide), h1, beq_self_eq_true, Bool.true_and]
        by_cases h2 : b.toNat = 94
        · simp only [h2, beq_self_eq_true, if_true, wrap_plus (show i < 4611686018427387904 by omega), if_pos (show (0 : Int) ≤ ((i + 2 : Nat) : Int) by omega), if_pos (show ((i + 2 : Nat) : Int) ≤ (s.size : Int) by omega), Int.toNat_natCast]
          have em : s.extract (i + 2) s.size = ofL r2 := by rw [ext_end, show i + 2 = i + 1 + 1 from rfl, hr2]
          rw [em]
          have hl2 := congrArg List.length hr2
          rw [List.length_drop, size_toList] at hl2
          refine Ev.bind (g := fun k => @term_PrefixH.f ⟨P k⟩ (ofL r2)) (IH (ofL r2) (by rw [ofL_size]; omega)) ?_
          rw [ofL_toList, ofL_size]
          cases hi2 : iriR r2 with
          | some pq =>
            obtain ⟨p, q⟩ := pq
            rw [tpre_iri hi2]
            simp only [preV, val5, if_true]
            have hq := iriR_len hi2
            rw [show wrap64 (((i + 2 : Nat) : Int) + ((r2.length - q.length : Nat) : Int)) = ((s.size - q.length : Nat) : Int) by unfold wrap64; omega, hx]
            exact Ev.now _
          | none =>
            simp only
            rw [dull _ hd]
            cases ht : tpre r2 with
            | none => simp only [preV, zero5, if_neg (show ¬ ((0 : Int) = 1) by decide)]; exact Ev.now _
            | some y =>
              obtain ⟨y, q⟩ := y
              have hk : ¬ y.k = 1 := by
                intro hk
                have := (tpre_k1 ht hk).1
                rw [hi2] at this
                cases this
              exact Ev.congr (fun k => if_neg hk) (Ev.now _)
        simp only [beq_eq_false_iff_ne.mpr h2, Bool.false_eq_true, if_false, if_pos (show (i : Int) < (s.size : Int) by omega), hb, h1, show (((94 : Nat) : Int) == 64) = false from rfl, if_neg h2]
        rw [dull _ hd]
        exact j0f
    rw [if_neg h1]
    have hm : (match a :: r1 with | x :: y :: _ => x == UInt8.ofNat 94 && y == UInt8.ofNat 94 | _ => false) = false := by
      cases r1 with
      | nil => rfl
      | cons b r2 => simp only [toN_eq (show 94 < 256 by decide), beq_eq_false_iff_ne.mpr h1, Bool.false_and]
    simp only [hm, Bool.false_eq_true, if_false, if_pos (show (i : Int) < (s.size : Int) by omega), hb]
    by_cases h2 : a.toNat = 64
    · rw [if_pos h2]
      simp only [h2, show (((64 : Nat) : Int) == 64) = true from rfl]
      refine Ev.step (fun k => by letI : Inhabited TP := ⟨P (k + 1)⟩; rw [term_behind.j0]) ?_
      simp only [if_true, wrap_succ (show i < 9223372036854775807 by omega)]
      have h := lang_loop s hs i hlt x r1 [] (fun k => P (k + 1)) hr
      simp only [List.nil_append, List.length_nil, Nat.add_zero] at h
      have hlr := congrArg List.length hr
      rw [List.length_drop, size_toList] at hlr
      have htd := congrArg List.length (List.takeWhile_append_dropWhile (p := langB) (l := r1))
      rw [List.length_append] at htd
      by_cases h3 : okLang (r1.takeWhile langB) = true
      · rw [if_pos h3] at h ⊢
        unfold val5
        simp only [hx]
        rw [show ofL [] = ⟨#[]⟩ from rfl, show s.size - (r1.dropWhile langB).length = i + 1 + (r1.takeWhile langB).length by omega]
        exact h
      rw [if_neg h3] at h ⊢
      rw [dull _ hd]
      exact h
    rw [if_neg h2]
    simp only [beq_eq_false_iff_ne.mpr (show ¬ ((a.toNat : Int) = 64) by omega)]
    rw [dull _ hd]
    exact j0f

def posE (c : UInt8) : Int := if c.toNat = 34 then 0 else if c.toNat = 92 then 1 else if c.toNat = 110 then 2 else if c.toNat = 116 then 3 else -1
theorem pos_eq (c : UInt8) : strings_IndexByte.f (⟨#[34, 92, 110, 116]⟩ : ByteArray) (c.toNat : Int) = some (posE c) :=
  forall_byte (P := fun c => strings_IndexByte.f (⟨#[34, 92, 110, 116]⟩ : ByteArray) (c.toNat : Int) = some (posE c)) (by decide +kernel) c
theorem unesc_pos (c : UInt8) : match unescB c with
    | some d => ¬ posE c < 0 ∧ 0 ≤ posE c ∧ posE c < 4 ∧ bt (⟨#[34, 92, 10, 9]⟩ : ByteArray) (posE c) = (d.toNat : Int)
    | none => posE c < 0 := by
  have key : ∀ n : Fin 256, (match unescB (UInt8.ofNat n.val) with
    | some d => decide (¬ posE (UInt8.ofNat n.val) < 0) && decide (0 ≤ posE (UInt8.ofNat n.val)) && decide (posE (UInt8.ofNat n.val) < 4) && decide (bt (⟨#[34, 92, 10, 9]⟩ : ByteArray) (posE (UInt8.ofNat n.val)) = (d.toNat : Int))
    | none => decide (posE (UInt8.ofNat n.val) < 0)) = true := by decide +kernel
  refine forall_byte (P := fun c => match unescB c with
    | some d => ¬ posE c < 0 ∧ 0 ≤ posE c ∧ posE c < 4 ∧ bt (⟨#[34, 92, 10, 9]⟩ : ByteArray) (posE c) = (d.toNat : Int)
    | none => posE c < 0) ?_ c
  intro n
  have h := key n
  revert h
  cases unescB (UInt8.ofNat n.val) with
  | none => intro h; exact of_decide_eq_true h
  | some d =>
    intro h
    simp only [Bool.and_eq_true, decide_eq_true_eq] at h
    exact ⟨h.1.1.1, h.1.1.2, h.1.2, h.2⟩
def litV (n : Nat) (acc : List UInt8) : Option (List UInt8 × List UInt8) → Int × ByteArray × ByteArray × ByteArray × Int
  | none => zero5
  | some x => if okText (acc ++ x.1) = true then val5 n (behindR ⟨2, acc ++ x.1, [], []⟩ x.2) else zero5
theorem litV_cons (n : Nat) (acc : List UInt8) (b : UInt8) (o : Option (List UInt8 × List UInt8)) : litV n acc (o.map fun x => (b :: x.1, x.2)) = litV n (acc ++ [b]) o := by
  cases o with
  | none => rfl
  | some x => simp [litV]
theorem lit_loop (s : ByteArray) (hs : s.size ≤ 35184372088832) : ∀ (n : Nat) (r : List UInt8) (i : Nat) (acc : List UInt8) (P : Nat → TP), IHP P s.size → r.length ≤ n → s.data.toList.drop i = r → i ≤ s.size → acc.length ≤ i →
    Ev (fun k => @term_literal.l0 ⟨P k⟩ k s (nat acc) (i : Int)) (litV s.size acc (litR r)) := by
  intro n
  have nil : ∀ (i : Nat) (acc : List UInt8) (P : Nat → TP), s.data.toList.drop i = [] → Ev (fun k => @term_literal.l0 ⟨P k⟩ k s (nat acc) (i : Int)) (litV s.size acc (litR [])) := by
    intro i acc P hd
    have hz := size_of_drop hd
    refine Ev.step (fun k => by letI : Inhabited TP := ⟨P (k + 1)⟩; rw [term_literal.l0]) ?_
    simp only [if_neg (show ¬ ((i : Int) < (s.size : Int)) by omega)]
    refine Ev.step (fun k => by letI : Inhabited TP := ⟨P (k + 1 + 1)⟩; rw [term_literal.j1]) ?_
    simp only [Bool.false_eq_true, if_false, if_pos (show (i : Int) ≥ (s.size : Int) by omega)]
    exact Ev.now _
  induction n with
  | zero =>
    intro r i acc P IH hl hd hi ha
    obtain rfl : r = [] := List.length_eq_zero_iff.1 (Nat.le_zero.1 hl)
    exact nil i acc P hd
  | succ n ih =>
    intro r i acc P IH hl hd hi ha
    cases r with
    | nil => exact nil i acc P hd
    | cons c r =>
      obtain ⟨hb, hlt, hr⟩ := bt_of_drop hd
      have hlen : (nat acc).length < 140737488355328 := by rw [nat_length]; omega
      refine Ev.step (fun k => by letI : Inhabited TP := ⟨P (k + 1)⟩; rw [term_literal.l0]) ?_
      simp only [if_pos (show (i : Int) < (s.size : Int) by omega), if_pos (show (0 : Int) ≤ (i : Int) by omega), hb]
      rw [litR_cons]
      refine Ev.step (fun k => by letI : Inhabited TP := ⟨P (k + 1 + 1)⟩; rw [term_literal.j1]) ?_
      simp only [if_pos (show (i : Int) < (s.size : Int) by omega), if_pos (show (0 : Int) ≤ (i : Int) by omega), hb, wrap_succ (show i < 9223372036854775807 by omega)]
      by_cases h1 : c.toNat = 34
      · simp only [h1, show (((34 : Nat) : Int) != 34) = false from rfl, Bool.false_eq_true, if_false, if_true, if_neg (show ¬ ((i : Int) ≥ (s.size : Int)) by omega), strOfNums_nat]
        refine Ev.bind (isText_ev (ofL acc)) ?_
        rw [ofL_toList]
        unfold litV
        simp only [List.append_nil]
        by_cases h2 : okText acc = true
        · simp only [h2, if_true]
          have h := behind_ev (fun k => P (k + 1 + 1)) s hs IH.shift.shift (i + 1) (by omega) (ofL acc)
          rw [hr, ofL_toList] at h
          refine Ev.bind h ?_
          exact Ev.now _
        simp only [if_neg h2]; exact Ev.now _
      simp only [bne_iff_ne.mpr (show ¬ ((c.toNat : Int) = 34) by omega), if_true, if_neg h1]
      by_cases h2 : c.toNat = 92
      · simp only [h2, show (((92 : Nat) : Int) = 92) from rfl, if_true]
        cases r with
        | nil =>
          have hz := size_of_drop hr
          simp only [if_pos (show ((i + 1 : Nat) : Int) = (s.size : Int) by omega)]
          exact Ev.now _
        | cons d r2 =>
          obtain ⟨hb2, hlt2, hr2⟩ := bt_of_drop hr
          simp only [if_neg (show ¬ (((i + 1 : Nat) : Int) = (s.size : Int)) by omega), if_pos (show (0 : Int) ≤ ((i + 1 : Nat) : Int) by omega), if_pos (show ((i + 1 : Nat) : Int) < (s.size : Int) by omega), hb2, pos_eq, Option.bind_some, wrap_succ (show i + 1 < 9223372036854775807 by omega)]
          have hu := unesc_pos d
          cases hd2 : unescB d with
          | none =>
            rw [hd2] at hu
            simp only [if_pos hu]
            exact Ev.now _
          | some e =>
            rw [hd2] at hu
            obtain ⟨u1, u2, u3, u4⟩ := hu
            simp only [if_neg u1, if_pos u2, if_pos u3, if_pos hlen, u4]
            rw [litV_cons]
            have h := ih r2 (i + 1 + 1) (acc ++ [e]) (fun k => P (k + 1 + 1)) IH.shift.shift (by simp at hl; omega) hr2 (by omega) (by simp; omega)
            rw [nat_append] at h
            exact h
      simp only [if_neg (show ¬ ((c.toNat : Int) = 92) by omega), if_neg h2]
      by_cases h3 : c.toNat = 10
      · simp only [if_pos (show ((c.toNat : Int) = 10) by omega), if_pos (Or.inl h3 : c.toNat = 10 ∨ c.toNat = 9)]
        exact Ev.now _
      simp only [if_neg (show ¬ ((c.toNat : Int) = 10) by omega)]
      by_cases h4 : c.toNat = 9
      · simp only [if_pos (show ((c.toNat : Int) = 9) by omega), if_pos (Or.inr h4 : c.toNat = 10 ∨ c.toNat = 9)]
        exact Ev.now _
      simp only [if_neg (show ¬ ((c.toNat : Int) = 9) by omega), if_neg (show ¬ (c.toNat = 10 ∨ c.toNat = 9) by omega), if_pos hlen]
      rw [litV_cons]
      have h := ih r (i + 1) (acc ++ [c]) (fun k => P (k + 1 + 1)) IH.shift.shift (by simpa using hl) hr (by omega) (by simp; omega)
      rw [nat_append] at h
      exact h
theorem prefix_ev : ∀ (n : Nat) (s : ByteArray), s.size ≤ n → n ≤ 35184372088832 → Ev (fun k => term_Prefix.f k s) (preV s.size (tpre s.data.toList)) := by
  intro n
  induction n with
  | zero =>
    intro s hs _
    have hl : s.data.toList = [] := by
      rw [← List.length_eq_zero_iff, size_toList]; omega
    refine Ev.step (g := fun k => term_Prefix.f k s) (f := fun k => @term_PrefixB.f ⟨PF k⟩ k s) (fun k => rfl) ?_
    unfold term_PrefixB.f
    simp only [tl, hl, if_true]
    exact Ev.now _
  | succ n ih =>
    intro s hs hn
    have IH : IHP PF s.size := fun m hm => ih m (by omega) (by omega)
    refine Ev.step (g := fun k => term_Prefix.f k s) (f := fun k => @term_PrefixB.f ⟨PF k⟩ k s) (fun k => rfl) ?_
    unfold term_PrefixB.f
    simp only [tl]
    cases hl : s.data.toList with
    | nil =>
      simp only [if_true]
      exact Ev.now _
    | cons c r =>
      obtain ⟨hb, hlt, hr⟩ := bt_of_drop (s := s) (i := 0) (by rw [List.drop_zero]; exact hl)
      have hz : s.size = r.length + 1 := by rw [← size_toList, hl]; rfl
      simp only [if_neg (show ¬ (c :: r = []) by simp), if_pos (show (0 : Int) < (s.size : Int) by omega), show bt s 0 = (c.toNat : Int) from hb]
      rw [tpre_cons]
      by_cases h1 : c.toNat = 60
      · simp only [h1, if_pos (show ((60 : Nat) : Int) = 60 from rfl), if_true]
        unfold strings_IndexByte.f
        simp only [Option.bind_some, hl, show (62 : Int).toNat.toUInt8 = 62 from rfl]
        have hci := cutC_index 62 (c :: r)
        have hc0 : cutC 62 (c :: r) = (cutC 62 r).map fun x => (c :: x.1, x.2) := by
          rw [cutC, if_neg (fun e => by rw [e] at h1; cases h1)]
        rcases hci with ⟨e1, e2⟩ | ⟨i, e1, e2, e3⟩
        · rw [e1]
          rw [hc0] at e2
          have e4 : cutC 62 r = none := by simpa using e2
          have e5 : iriR (c :: r) = none := by unfold iriR; simp only [if_pos h1, e4]
          rw [e5]
          simp only [if_neg (show ¬ ((-1 : Int) > 0) by decide)]
          exact Ev.now _
        rw [e1]
        rw [hc0] at e3
        obtain ⟨x, hx, he⟩ := Option.map_eq_some_iff.1 e3
        simp only [Prod.mk.injEq] at he
        obtain ⟨he1, he2⟩ := he
        have hxs := (cutC_some (show cutC 62 r = some (x.1, x.2) from hx)).1
        have hil : i = x.1.length + 1 := by
          have := congrArg List.length he1
          rw [List.length_take, Nat.min_eq_left (Nat.le_of_lt e2)] at this
          simpa using this.symm
        have hrl : r.length = x.1.length + x.2.length + 1 := by
          have := congrArg List.length hxs
          rw [List.length_append, List.length_cons] at this
          omega
        have ee : s.extract 1 i = ofL x.1 := by
          rw [ext_ofL, hl, List.drop_succ_cons, List.drop_zero, hil, Nat.add_sub_cancel, hxs, List.take_left']
          rfl
        simp only [if_pos (show (i : Int) > 0 by omega), if_pos (show (1 : Int) ≤ (i : Int) by omega), if_pos (show (i : Int) ≤ (s.size : Int) by omega), Int.toNat_natCast, ee, isIri_eq, Option.bind_some, ofL_toList]
        have e5 : iriR (c :: r) = if okIri x.1 then some (x.1, x.2) else none := by unfold iriR; simp only [if_pos h1, hx]
        rw [e5]
        by_cases h2 : okIri x.1 = true
        · simp only [h2, if_true, Option.map_some, preV, val5]
          rw [wrap_succ (show i < 9223372036854775807 by omega), show s.size - x.2.length = i + 1 by omega]
          exact Ev.now _
        simp only [if_neg h2, Option.map_none, preV]
        exact Ev.now _
      simp only [if_neg (show ¬ ((c.toNat : Int) = 60) by omega), if_neg h1]
      by_cases h2 : c.toNat = 34
      · simp only [if_pos (show (c.toNat : Int) = 34 by omega), if_pos h2]
        have h := lit_loop s (by omega) r.length r 1 [] PF IH (Nat.le_refl _) hr (by omega) (by simp)
        have e : litV s.size [] (litR r) = preV s.size ((litR r).bind fun x => if okText x.1 then some (behindR ⟨2, x.1, [], []⟩ x.2) else none) := by
          cases litR r with
          | none => rfl
          | some x =>
            simp only [litV, List.nil_append, Option.bind_some]
            by_cases h3 : okText x.1 = true
            · rw [if_pos h3, if_pos h3]; rfl
            rw [if_neg h3, if_neg h3]; rfl
        rw [e] at h
        exact Ev.bind (g := fun k => @term_literal.f ⟨PF k⟩ k s) h (Ev.now _)
      simp only [if_neg (show ¬ ((c.toNat : Int) = 34) by omega), if_neg h2]
      by_cases h3 : c.toNat = 63
      · simp only [if_pos (show (c.toNat : Int) = 63 by omega), if_pos h3, if_pos (show (1 : Int) ≤ (s.size : Int) by omega)]
        have em : s.extract 1 s.size = ofL r := by rw [ext_end, hr]
        rw [em]
        refine Ev.bind (named_ev (ofL r)) ?_
        rw [ofL_toList]
        have hnl := nameN_le r
        by_cases h4 : 0 < nameN r
        · have e1 : wrap64 (1 + ((nameN r : Nat) : Int)) = ((nameN r + 1 : Nat) : Int) := by unfold wrap64; omega
          simp only [if_pos (show ((nameN r : Nat) : Int) > 0 by omega), e1, if_pos (show (1 : Int) ≤ ((nameN r + 1 : Nat) : Int) by omega), if_pos (show ((nameN r + 1 : Nat) : Int) ≤ (s.size : Int) by omega), if_pos h4, Int.toNat_natCast, preV, val5]
          rw [ext_ofL, hr, Nat.add_sub_cancel, List.length_drop, show s.size - (r.length - nameN r) = nameN r + 1 by omega]
          exact Ev.now _
        simp only [if_neg (show ¬ (((nameN r : Nat) : Int) > 0) by omega), if_neg h4, preV]
        exact Ev.now _
      simp only [if_neg (show ¬ ((c.toNat : Int) = 63) by omega), if_neg h3]
      unfold strings_HasPrefix.f
      simp only [Option.bind_some]
      rw [show ([95, 58] : List UInt8) = [UInt8.ofNat 95, UInt8.ofNat 58] from rfl, hasP, hl]
      by_cases h4 : c.toNat = 95
      · simp only [if_pos h4]
        cases r with
        | nil => simp only [Bool.false_eq_true, if_false, preV]; exact Ev.now _
        | cons d r1 =>
          simp only [toN_eq (show 95 < 256 by decide), toN_eq (show 58 < 256 by decide), h4, beq_self_eq_true, Bool.true_and]
          by_cases h5 : d.toNat = 58
          · simp only [h5, beq_self_eq_true, if_true]
            obtain ⟨_, _, hr1⟩ := bt_of_drop hr
            simp only [List.length_cons] at hz
            simp only [if_pos (show (2 : Int) ≤ (s.size : Int) by omega)]
            have em : s.extract 2 s.size = ofL r1 := by rw [ext_end, hr1]
            rw [em]
            refine Ev.bind (named_ev (ofL r1)) ?_
            rw [ofL_toList]
            have hnl := nameN_le r1
            by_cases h6 : 0 < nameN r1
            · have e1 : wrap64 (2 + ((nameN r1 : Nat) : Int)) = ((nameN r1 + 2 : Nat) : Int) := by unfold wrap64; omega
              simp only [if_pos (show ((nameN r1 : Nat) : Int) > 0 by omega), e1, if_pos (show (2 : Int) ≤ ((nameN r1 + 2 : Nat) : Int) by omega), if_pos (show ((nameN r1 + 2 : Nat) : Int) ≤ (s.size : Int) by omega), if_pos h6, Int.toNat_natCast, preV, val5]
              rw [ext_ofL, hr1, Nat.add_sub_cancel, List.length_drop, show s.size - (r1.length - nameN r1) = nameN r1 + 2 by omega]
              exact Ev.now _
            simp only [if_neg (show ¬ (((nameN r1 : Nat) : Int) > 0) by omega), if_neg h6, preV]
            exact Ev.now _
          simp only [beq_eq_false_iff_ne.mpr h5, Bool.false_eq_true, if_false, if_neg h5, preV]
          exact Ev.now _
      have hm : (match c :: r with | x :: y :: _ => x == UInt8.ofNat 95 && y == UInt8.ofNat 58 | _ => false) = false := by
        cases r with
        | nil => rfl
        | cons d r1 => simp only [toN_eq (show 95 < 256 by decide), beq_eq_false_iff_ne.mpr h4, Bool.false_and]
      simp only [hm, Bool.false_eq_true, if_false, if_neg h4, preV]
      exact Ev.now _
def readV : Option Tm → Int × ByteArray × ByteArray × ByteArray × Int
  | some t => (t.k, ofL t.x, ofL t.ty, ofL t.la, 0)
  | none => (0, ⟨#[]⟩, ⟨#[]⟩, ⟨#[]⟩, 2)
end Go.Proofs.YtgabadlneeffkaaDoor.S
