/- What the printed functions of percent and of its reference come to: the plain lists' words. -/
import Derived.Test.YtlkpdfbmklanoaaDoorQx
import Derived.Test.YtlkpdfbmklanoaaDoorSq
namespace Go.Proofs.YtlkpdfbmklanoaaDoor.Q
open Go.RowKit Go.Lib Go.Proofs.YtlkpdfbmklanoaaDoor Go.Proofs.YtlkpdfbmklanoaaDoorW.PrintWords Go.Proofs.YtlkpdfbmklanoaaDoorW.PrintLast

theorem bt_of_drop {s : ByteArray} {i : Nat} {c : UInt8} {r : List UInt8} (h : s.data.toList.drop i = c :: r) : bt s (i : Int) = (c.toNat : Int) ∧ i < s.size ∧ s.data.toList.drop (i + 1) = r := by
  have hi : i < s.data.toList.length := by
    rcases Nat.lt_or_ge i s.data.toList.length with h' | h'
    · exact h'
    · rw [List.drop_eq_nil_of_le h'] at h; cases h
  have h2 := List.drop_eq_getElem_cons hi
  rw [h] at h2
  injection h2 with h3 h4
  have hs : i < s.size := by rw [← size_toList]; exact hi
  refine ⟨?_, hs, h4.symm⟩
  unfold bt
  rw [dif_pos (by simpa using hs)]
  rw [h3]
  simp
  rfl
theorem size_of_drop {s : ByteArray} {i : Nat} (h : s.data.toList.drop i = []) : s.size ≤ i := by
  rw [← size_toList]
  exact List.drop_eq_nil_iff.1 h
theorem wrap_nat {n : Nat} (h : n ≤ 4611686018427387904) : wrap64 (n : Int) = (n : Int) := by unfold wrap64; omega
theorem wrap_succ {n : Nat} (h : n < 4611686018427387904) : wrap64 ((n : Int) + 1) = ((n + 1 : Nat) : Int) := by unfold wrap64; omega
theorem wrap_plus {n : Nat} (h : n < 4611686018427387904) : wrap64 ((n : Int) + 2) = ((n + 2 : Nat) : Int) := by unfold wrap64; omega

theorem plain_ev (c : UInt8) : Ev (fun k => percent_plain.f k (c.toNat : Int)) (plain c) := by
  refine Ev.of (k := 2) (fun k => percent_plain.mono _ k) ?_
  exact forall_byte (P := fun c => percent_plain.f 2 (c.toNat : Int) = some (plain c)) (by decide +kernel) c
theorem rplain_ev (c : UInt8) : Ev (fun k => legationref15_plain.f k (c.toNat : Int)) (plain c) := by
  refine Ev.of (k := 6) (fun k => legationref15_plain.mono _ k) ?_
  exact forall_byte (P := fun c => legationref15_plain.f 6 (c.toNat : Int) = some (plain c)) (by decide +kernel) c
theorem hexs (c : UInt8) : 0 ≤ (c.toNat : Int) / 16 ∧ (c.toNat : Int) / 16 < 16 ∧ 0 ≤ Go.bits .and .u8 (c.toNat : Int) 15 ∧ Go.bits .and .u8 (c.toNat : Int) 15 < 16 ∧
    bt (⟨#[48, 49, 50, 51, 52, 53, 54, 55, 56, 57, 65, 66, 67, 68, 69, 70]⟩ : ByteArray) ((c.toNat : Int) / 16) = ((hexd (c.toNat / 16)).toNat : Int) ∧
    bt (⟨#[48, 49, 50, 51, 52, 53, 54, 55, 56, 57, 65, 66, 67, 68, 69, 70]⟩ : ByteArray) (Go.bits .and .u8 (c.toNat : Int) 15) = ((hexd (c.toNat % 16)).toNat : Int) := by
  refine forall_byte (P := fun c => 0 ≤ (c.toNat : Int) / 16 ∧ (c.toNat : Int) / 16 < 16 ∧ 0 ≤ Go.bits .and .u8 (c.toNat : Int) 15 ∧ Go.bits .and .u8 (c.toNat : Int) 15 < 16 ∧
    bt (⟨#[48, 49, 50, 51, 52, 53, 54, 55, 56, 57, 65, 66, 67, 68, 69, 70]⟩ : ByteArray) ((c.toNat : Int) / 16) = ((hexd (c.toNat / 16)).toNat : Int) ∧
    bt (⟨#[48, 49, 50, 51, 52, 53, 54, 55, 56, 57, 65, 66, 67, 68, 69, 70]⟩ : ByteArray) (Go.bits .and .u8 (c.toNat : Int) 15) = ((hexd (c.toNat % 16)).toNat : Int)) ?_ c
  decide +kernel
theorem rdigs (c : UInt8) : legationref15_digit.f (wrap64 (Int.tdiv (wrap64 (c.toNat : Int)) 16)) = some ((hexd (c.toNat / 16)).toNat : Int) ∧ legationref15_digit.f (Int.tmod (wrap64 (c.toNat : Int)) 16) = some ((hexd (c.toNat % 16)).toNat : Int) := by
  refine forall_byte (P := fun c => legationref15_digit.f (wrap64 (Int.tdiv (wrap64 (c.toNat : Int)) 16)) = some ((hexd (c.toNat / 16)).toNat : Int) ∧ legationref15_digit.f (Int.tmod (wrap64 (c.toNat : Int)) 16) = some ((hexd (c.toNat % 16)).toNat : Int)) ?_ c
  decide +kernel

theorem enc_loop (s : ByteArray) (hs : s.size ≤ 35184372088832) : ∀ (r : List UInt8) (i : Nat) (acc : List UInt8), s.data.toList.drop i = r → acc.length ≤ 3 * i →
    Ev (fun k => percent_Encode.l0 k s (nat acc) (i : Int)) (ofL (acc ++ enc r)) := by
  intro r
  induction r with
  | nil =>
    intro i acc hd ha
    have := size_of_drop hd
    refine Ev.step (fun k => by rw [percent_Encode.l0]) ?_
    simp only [if_neg (show ¬ ((i : Int) < (s.size : Int)) by omega)]
    rw [strOfNums_nat, enc_nil, List.append_nil]
    exact Ev.now _
  | cons c r ih =>
    intro i acc hd ha
    obtain ⟨hb, hi, hr⟩ := bt_of_drop hd
    have hlen : (nat acc).length < 140737488355328 := by rw [nat_length]; omega
    refine Ev.step (fun k => by rw [percent_Encode.l0]) ?_
    simp only [if_pos (show (i : Int) < (s.size : Int) by omega), if_pos (show (0 : Int) ≤ (i : Int) by omega), hb, wrap_succ (show i < 4611686018427387904 by omega)]
    refine Ev.bind (plain_ev c) ?_
    cases hp : plain c with
    | true =>
      simp only [if_true, if_pos hlen]
      have h := ih (i + 1) (acc ++ [c]) hr (by simp; omega)
      rw [nat_append] at h
      rw [enc_cons, encB, if_pos hp, ← List.append_assoc]
      exact h
    | false =>
      obtain ⟨h1, h2, h3, h4, h5, h6⟩ := hexs c
      simp only [if_pos h1, if_pos h2, if_pos h3, if_pos h4, h5, h6, Option.bind_some, Bool.false_eq_true, if_false]
      have h := ih (i + 1) (acc ++ [37, hexd (c.toNat / 16), hexd (c.toNat % 16)]) hr (by simp; omega)
      rw [nat_append] at h
      have hl2 : (nat acc).length + ([37, ((hexd (c.toNat / 16)).toNat : Int), ((hexd (c.toNat % 16)).toNat : Int)] : List Int).length < 140737488355328 := by rw [nat_length]; simp; omega
      simp only [if_pos hl2]
      rw [enc_cons, encB, if_neg (by rw [hp]; decide), ← List.append_assoc]
      exact h
theorem pEncode (s : ByteArray) (hs : s.size ≤ 35184372088832) : Ev (fun k => percent_Encode.f k s) (ofL (enc s.data.toList)) := by
  unfold percent_Encode.f
  exact enc_loop s hs _ 0 [] rfl (by simp)
theorem renc_loop (s : ByteArray) (hs : s.size ≤ 35184372088832) : ∀ (r : List UInt8) (i : Nat) (acc : List UInt8), s.data.toList.drop i = r → acc.length ≤ 3 * i →
    Ev (fun k => legationref15_Encode.l0 k s (nat acc) (i : Int)) (ofL (acc ++ enc r)) := by
  intro r
  induction r with
  | nil =>
    intro i acc hd ha
    have := size_of_drop hd
    refine Ev.step (fun k => by rw [legationref15_Encode.l0]) ?_
    simp only [if_neg (show ¬ ((i : Int) < (s.size : Int)) by omega)]
    rw [strOfNums_nat, enc_nil, List.append_nil]
    exact Ev.now _
  | cons c r ih =>
    intro i acc hd ha
    obtain ⟨hb, hi, hr⟩ := bt_of_drop hd
    have hlen : (nat acc).length < 140737488355328 := by rw [nat_length]; omega
    refine Ev.step (fun k => by rw [legationref15_Encode.l0]) ?_
    simp only [if_pos (show (i : Int) < (s.size : Int) by omega), if_pos (show (0 : Int) ≤ (i : Int) by omega), hb, wrap_succ (show i < 4611686018427387904 by omega)]
    refine Ev.bind (rplain_ev c) ?_
    cases hp : plain c with
    | true =>
      simp only [if_true, if_pos hlen]
      have h := ih (i + 1) (acc ++ [c]) hr (by simp; omega)
      rw [nat_append] at h
      rw [enc_cons, encB, if_pos hp, ← List.append_assoc]
      exact h
    | false =>
      obtain ⟨h1, h2⟩ := rdigs c
      simp only [h1, h2, Option.bind_some, Bool.false_eq_true, if_false]
      have h := ih (i + 1) (acc ++ [37, hexd (c.toNat / 16), hexd (c.toNat % 16)]) hr (by simp; omega)
      rw [nat_append] at h
      have hl2 : (nat acc).length + ([37, ((hexd (c.toNat / 16)).toNat : Int), ((hexd (c.toNat % 16)).toNat : Int)] : List Int).length < 140737488355328 := by rw [nat_length]; simp; omega
      simp only [if_pos hl2]
      rw [enc_cons, encB, if_neg (by rw [hp]; decide), ← List.append_assoc]
      exact h
theorem rEncode (s : ByteArray) (hs : s.size ≤ 35184372088832) : Ev (fun k => legationref15_Encode.f k s) (ofL (enc s.data.toList)) := by
  unfold legationref15_Encode.f
  exact renc_loop s hs _ 0 [] rfl (by simp)

/-! ### reading -/
theorem pos_unhex (c : UInt8) : strings_IndexByte.f (⟨#[48, 49, 50, 51, 52, 53, 54, 55, 56, 57, 65, 66, 67, 68, 69, 70]⟩ : ByteArray) (c.toNat : Int) = some (match unhex c with | some a => (a : Int) | none => -1) := by
  refine forall_byte (P := fun c => strings_IndexByte.f (⟨#[48, 49, 50, 51, 52, 53, 54, 55, 56, 57, 65, 66, 67, 68, 69, 70]⟩ : ByteArray) (c.toNat : Int) = some (match unhex c with | some a => (a : Int) | none => -1)) ?_ c
  decide +kernel
theorem rvalue_ev (c : UInt8) : Ev (fun k => legationref15_value.f k (c.toNat : Int)) (match unhex c with | some a => (a : Int) | none => -1) := by
  refine Ev.of (k := 20) (fun k => legationref15_value.mono _ k) ?_
  exact forall_byte (P := fun c => legationref15_value.f 20 (c.toNat : Int) = some (match unhex c with | some a => (a : Int) | none => -1)) (by decide +kernel) c
theorem or_hex (a b : Nat) (ha : a < 16) (hb : b < 16) : (Go.bits .or .i64 (wrap64 ((a : Int) * 16)) (b : Int)) % 256 = ((UInt8.ofNat (16 * a + b)).toNat : Int) := by
  have key : ∀ a b : Fin 16, (Go.bits .or .i64 (wrap64 ((a.val : Int) * 16)) (b.val : Int)) % 256 = ((UInt8.ofNat (16 * a.val + b.val)).toNat : Int) := by decide +kernel
  exact key ⟨a, ha⟩ ⟨b, hb⟩
theorem add_hex (a b : Nat) (ha : a < 16) (hb : b < 16) : (wrap64 ((wrap64 (16 * (a : Int))) + (b : Int))) % 256 = ((UInt8.ofNat (16 * a + b)).toNat : Int) := by
  have key : ∀ a b : Fin 16, (wrap64 ((wrap64 (16 * (a.val : Int))) + (b.val : Int))) % 256 = ((UInt8.ofNat (16 * a.val + b.val)).toNat : Int) := by decide +kernel
  exact key ⟨a, ha⟩ ⟨b, hb⟩
def decR (acc : List UInt8) (o : Option (List UInt8)) : ByteArray × Int := match o with
  | some m => (ofL (acc ++ m), 0)
  | none => (⟨#[]⟩, 2)
theorem decR_cons (acc : List UInt8) (c : UInt8) (o : Option (List UInt8)) : decR acc (o.map (c :: ·)) = decR (acc ++ [c]) o := by
  cases o with
  | none => rfl
  | some m => simp [decR]
theorem toNat_inj37 {c : UInt8} : ((c.toNat : Int) = 37) ↔ c = 37 := by
  constructor
  · intro h
    have : c.toNat = (37 : UInt8).toNat := by
      have : c.toNat = 37 := by omega
      simpa using this
    exact UInt8.toNat_inj.1 this
  · intro h; subst h; rfl

theorem dec_loop (s : ByteArray) (hs : s.size ≤ 35184372088832) : ∀ (n : Nat) (r : List UInt8) (i : Nat) (acc : List UInt8), r.length ≤ n → s.data.toList.drop i = r → acc.length ≤ i →
    Ev (fun k => percent_Decode.l0 k s (nat acc) (i : Int)) (decR acc (dec r)) := by
  intro n
  induction n with
  | zero =>
    intro r i acc hl hd ha
    obtain rfl : r = [] := List.length_eq_zero_iff.1 (Nat.le_zero.1 hl)
    have := size_of_drop hd
    refine Ev.step (fun k => by rw [percent_Decode.l0]) ?_
    simp only [if_neg (show ¬ ((i : Int) < (s.size : Int)) by omega)]
    rw [strOfNums_nat, dec_nil, decR, List.append_nil]
    exact Ev.now _
  | succ n ih =>
    intro r i acc hl hd ha
    cases r with
    | nil =>
      have := size_of_drop hd
      refine Ev.step (fun k => by rw [percent_Decode.l0]) ?_
      simp only [if_neg (show ¬ ((i : Int) < (s.size : Int)) by omega)]
      rw [strOfNums_nat, dec_nil, decR, List.append_nil]
      exact Ev.now _
    | cons c r =>
      obtain ⟨hb, hi, hr⟩ := bt_of_drop hd
      have hlen : (nat acc).length < 140737488355328 := by rw [nat_length]; omega
      refine Ev.step (fun k => by rw [percent_Decode.l0]) ?_
      simp only [if_pos (show (i : Int) < (s.size : Int) by omega), if_pos (show (0 : Int) ≤ (i : Int) by omega), hb, wrap_succ (show i < 4611686018427387904 by omega), wrap_plus (show i < 4611686018427387904 by omega)]
      refine Ev.bind (plain_ev c) ?_
      rw [dec_cons]
      cases hp : plain c with
      | true =>
        simp only [if_true, if_pos hlen]
        have h := ih r (i + 1) (acc ++ [c]) (by simpa using hl) hr (by simp; omega)
        rw [nat_append] at h
        simp only [dec1, hp, if_true]
        rw [decR_cons]
        exact h
      | false =>
        simp only [Bool.false_eq_true, if_false]
        by_cases h37 : c = 37
        · subst h37
          simp only [if_pos (toNat_inj37.2 rfl)]
          match r, hr, hl with
          | [], hr, hl =>
            have hz := size_of_drop hr
            simp only [decide_eq_true (show ((i + 2 : Nat) : Int) ≥ (s.size : Int) by omega)]
            refine Ev.step (fun k => by rw [percent_Decode.j1]) ?_
            simp only [if_true, dec1, hp, Bool.false_eq_true, if_false]
            exact Ev.now _
          | [x], hr, hl =>
            obtain ⟨_, _, hr1⟩ := bt_of_drop hr
            have hz := size_of_drop hr1
            simp only [decide_eq_true (show ((i + 2 : Nat) : Int) ≥ (s.size : Int) by omega)]
            refine Ev.step (fun k => by rw [percent_Decode.j1]) ?_
            simp only [if_true, dec1, hp, Bool.false_eq_true, if_false]
            exact Ev.now _
          | x :: y :: r', hr, hl =>
            obtain ⟨hb1, hi1, hr1⟩ := bt_of_drop hr
            obtain ⟨hb2, hi2, hr2⟩ := bt_of_drop hr1
            simp only [decide_eq_false (show ¬ ((i + 2 : Nat) : Int) ≥ (s.size : Int) by omega)]
            refine Ev.step (fun k => by rw [percent_Decode.j1]) ?_
            simp only [Bool.false_eq_true, if_false, wrap_succ (show i < 4611686018427387904 by omega), wrap_plus (show i < 4611686018427387904 by omega), wrap_succ (show i + 2 < 4611686018427387904 by omega),
              if_pos (show (0 : Int) ≤ ((i + 1 : Nat) : Int) by omega), if_pos (show ((i + 1 : Nat) : Int) < (s.size : Int) by omega), if_pos (show (0 : Int) ≤ ((i + 2 : Nat) : Int) by omega), if_pos (show ((i + 2 : Nat) : Int) < (s.size : Int) by omega), hb1, hb2, pos_unhex, Option.bind_some]
            simp only [dec1, hp, Bool.false_eq_true, if_false, if_true]
            cases hx : unhex x with
            | none =>
              simp only [if_pos (show (-1 : Int) < 0 by decide)]
              exact Ev.now _
            | some a =>
              cases hy : unhex y with
              | none =>
                simp only [if_neg (show ¬ ((a : Int) < 0) by omega), if_pos (show (-1 : Int) < 0 by decide)]
                exact Ev.now _
              | some b =>
                simp only [if_neg (show ¬ ((a : Int) < 0) by omega), if_neg (show ¬ ((b : Int) < 0) by omega), or_hex a b (unhex_lt hx) (unhex_lt hy)]
                refine Ev.bind (plain_ev _) ?_
                cases hq : plain (UInt8.ofNat (16 * a + b)) with
                | true =>
                  simp only [if_true]
                  exact Ev.now _
                | false =>
                  simp only [Bool.false_eq_true, if_false, if_pos hlen]
                  have h := ih r' (i + 2 + 1) (acc ++ [UInt8.ofNat (16 * a + b)]) (by simp at hl; omega) hr2 (by simp; omega)
                  rw [nat_append] at h
                  rw [decR_cons]
                  exact h
        · simp only [if_neg (fun h => h37 (toNat_inj37.1 h))]
          refine Ev.step (fun k => by rw [percent_Decode.j1]) ?_
          simp only [if_true, dec1, hp, Bool.false_eq_true, if_false, if_neg h37]
          exact Ev.now _
theorem pDecode (s : ByteArray) (hs : s.size ≤ 35184372088832) : Ev (fun k => percent_Decode.f k s) (decR [] (dec s.data.toList)) := by
  unfold percent_Decode.f
  exact dec_loop s hs _ _ 0 [] (Nat.le_refl _) rfl (by simp)
end Go.Proofs.YtlkpdfbmklanoaaDoor.Q
