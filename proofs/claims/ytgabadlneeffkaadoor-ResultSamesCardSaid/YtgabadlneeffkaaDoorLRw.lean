/- A reply as a row's argument: its value written out, what its slices read as; and that it reads so in every later world. -/
import Derived.Test.YtgabadlneeffkaaDoorCards
import Derived.Test.YtgabadlneeffkaaDoorTie
import Derived.Test.YtgabadlneeffkaaDoorLVx
import Derived.WalkKit
import Derived.ProofKit
import Derived.OpenShut
import Derived.ShutString
import Derived.ChangeOld
import Derived.LaidMore
import Derived.Lay
import Derived.Deep.DeepHandedRow
import Derived.Lib.LaidTab
import Derived.Stop.LaidErr
import Derived.Lib.SmallJoins
import Derived.SevenTiedAt
import Derived.DataReads
import Derived.ReadAgain
import Derived.ChangeStays
namespace Go.Proofs.YtgabadlneeffkaaDoor
open Go.ChangeShapes Go.WideShapes Go.ChangeAt Go.RowKit Go.Joins
open Go.Proofs.YtgabadlneeffkaaDoorW.PrintWords
open Go.Proofs.YtgabadlneeffkaaDoor.S (S43 k43 z43 k43_mk)
set_option linter.unusedVariables false

section
variable {H : Type} {enc : TypeId × Value → H} {w : World} {base fuel : Nat} {spare : Nat → Bool} {held : Bool}
theorem row_of_trod {P : Program} {t e : TypeId} {α : Type} (d : Kd α) (z : α) (ht : P.underlying t = some (.slice e)) (hz : P.cellsOf e = d.sz)
    (hK : ∀ (n : Nat) (cs : List Value) (y : DataW H × List MemPlace), cs.length = d.sz → DataW.trod enc P w base spare held n e cs = some y → ∃ p, d.K w p cs)
    {cs : List Value} {x : DataW H × List MemPlace} (h : DataW.trod enc P w base spare held fuel t cs = some x) :
    ∃ (A : Option Addr) (l : List α) (c : Nat), cs = [.slice A l.length c] ∧ l.length ≤ c ∧ d.C w A l.length l := by
  rcases DataW.trod_slice ht h with ⟨rfl, _⟩ | ⟨a, len, cap, elems, rest, n, _, rfl, _, hb, hlc, hcm, hel, hg, _, _⟩
  · exact ⟨none, [], 0, rfl, Nat.le_refl _, rfl, by simp, fun h => absurd h (by simp)⟩
  have key : ∀ i, i < len → ∃ p : α, ∃ c : List Value, c.length = d.sz ∧ d.K w p c ∧ ∀ j u, c[j]? = some u → w.cell? (a.add (i * d.sz + j)) = some u := by
    intro i hi
    have hgi := hg i hi
    obtain ⟨y, hy⟩ : ∃ y, elems[i]? = some y := ⟨_, List.getElem?_eq_getElem (by omega)⟩
    rw [hy] at hgi
    obtain ⟨cs', hcs, htr⟩ := Option.bind_eq_some_iff.1 hgi
    obtain ⟨_, hl, hc⟩ := World.cells?_some hcs
    rw [hz] at hl hc
    obtain ⟨p, hp⟩ := hK n cs' y hl htr
    refine ⟨p, cs', hl, hp, fun j u hu => ?_⟩
    have hj : j < d.sz := by rw [← hl]; exact (List.getElem?_eq_some_iff.1 hu).1
    rw [← add_add, hc j hj]
    exact hu
  let f : Nat → α := fun i => if h : i < len then Classical.choose (key i h) else z
  have hf : ∀ i, i < len → ∃ c : List Value, c.length = d.sz ∧ d.K w (f i) c ∧ ∀ j u, c[j]? = some u → w.cell? (a.add (i * d.sz + j)) = some u := by
    intro i hi
    have : f i = Classical.choose (key i hi) := dif_pos hi
    rw [this]
    exact Classical.choose_spec (key i hi)
  have hll : ((List.range len).map f).length = len := by simp
  refine ⟨some a, (List.range len).map f, cap, by rw [hll], by rw [hll]; exact hlc, rfl, ?_, fun _ => ⟨a, rfl, ?_⟩⟩
  · rw [hll]
    exact Nat.le_trans hlc hcm
  intro j p hj
  rw [List.getElem?_map] at hj
  obtain ⟨i, hi, rfl⟩ := Option.map_eq_some_iff.1 hj
  have hjl : j < len := by
    have := (List.getElem?_eq_some_iff.1 hi).1
    simpa using this
  obtain rfl : i = j := by
    rw [List.getElem?_range hjl] at hi
    exact (Option.some.inj hi).symm
  obtain ⟨c, h1, h2, h3⟩ := hf i hjl
  exact ⟨c, h1, h2, h3⟩
theorem cells3 : Tryd.prog.cellsOf 3 = 1 := by kernel_rfl
theorem cells9 : Tryd.prog.cellsOf 9 = 1 := by kernel_rfl
theorem cells43 : Tryd.prog.cellsOf 43 = 4 := by kernel_rfl
theorem cells40 : Tryd.prog.cellsOf 40 = 1 := by kernel_rfl
theorem cells22 : Tryd.prog.cellsOf 22 = 1 := by kernel_rfl
theorem cells23 : Tryd.prog.cellsOf 23 = 1 := by kernel_rfl
theorem cells25 : Tryd.prog.cellsOf 25 = 2 := by kernel_rfl
theorem cells26 : Tryd.prog.cellsOf 26 = 1 := by kernel_rfl
theorem cells4 : Tryd.prog.cellsOf 4 = 1 := by kernel_rfl
theorem cells28 : Tryd.prog.cellsOf 28 = 6 := by kernel_rfl
theorem string_K (n : Nat) (cs : List Value) (y : DataW H × List MemPlace) (h : DataW.trod enc Tryd.prog w base spare held n 9 cs = some y) : ∃ p, Kd.string.K w p cs := by
  obtain ⟨s, rfl, _⟩ := DataW.trod_string Tryd.underlying9 h
  exact ⟨s, rfl⟩
theorem term_K (n : Nat) (cs : List Value) (y : DataW H × List MemPlace) (hl : cs.length = 4) (h : DataW.trod enc Tryd.prog w base spare held n 43 cs = some y) : ∃ p, k43.K w p cs := by
  obtain ⟨v0, v1, v2, v3, rfl⟩ : ∃ v0 v1 v2 v3, cs = [v0, v1, v2, v3] := by
    match cs, hl with
    | [v0, v1, v2, v3], _ => exact ⟨v0, v1, v2, v3, rfl⟩
  obtain ⟨y0, y1, y2, y3, m, _, _, h0, h1, h2, h3⟩ := trod_struct4 Tryd.underlying43 h
  simp only [cells3, cells9, List.drop_zero, List.drop_succ_cons, List.take_succ_cons, List.take_zero] at h0 h1 h2 h3
  obtain ⟨k0, e0, _⟩ := DataW.trod_int Tryd.underlying3 h0
  obtain ⟨s1, e1, _⟩ := DataW.trod_string Tryd.underlying9 h1
  obtain ⟨s2, e2, _⟩ := DataW.trod_string Tryd.underlying9 h2
  obtain ⟨s3, e3, _⟩ := DataW.trod_string Tryd.underlying9 h3
  simp only [List.cons.injEq, and_true] at e0 e1 e2 e3
  subst e0 e1 e2 e3
  exact ⟨⟨k0, s1, s2, s3⟩, k43_mk w _⟩
theorem vars_of {cs : List Value} {x : DataW H × List MemPlace} (h : DataW.trod enc Tryd.prog w base spare held fuel 22 cs = some x) : ∃ (A : Option Addr) (l : List ByteArray) (c : Nat), cs = [.slice A l.length c] ∧ l.length ≤ c ∧ Kd.C Kd.string w A l.length l :=
  row_of_trod Kd.string ByteArray.empty Tryd.underlying22 cells9 (fun n cs y _ h => string_K n cs y h) h
theorem row_of {cs : List Value} {x : DataW H × List MemPlace} (h : DataW.trod enc Tryd.prog w base spare held fuel 40 cs = some x) : ∃ (A : Option Addr) (l : List S43) (c : Nat), cs = [.slice A l.length c] ∧ l.length ≤ c ∧ Kd.C k43 w A l.length l :=
  row_of_trod k43 z43 Tryd.underlying40 cells43 (fun n cs y hl h => term_K n cs y hl h) h
theorem rows_of {cs : List Value} {x : DataW H × List MemPlace} (h : DataW.trod enc Tryd.prog w base spare held fuel 23 cs = some x) : ∃ (A : Option Addr) (l : List (List S43)) (c : Nat), cs = [.slice A l.length c] ∧ l.length ≤ c ∧ Kd.C (Kd.slice 43 k43) w A l.length l :=
  row_of_trod (Kd.slice 43 k43) [] Tryd.underlying23 cells40 (fun n cs y hl h => by
    obtain ⟨A, l, c, rfl, h1, h2⟩ := row_of h
    exact ⟨l, A, c, rfl, h1, h2⟩) h
theorem trod_struct5' {P : Program} {t : TypeId} {f0 f1 f2 f3 f4 : Field} {cs : List Value} {x : DataW H × List MemPlace} (ht : P.underlying t = some (.struct #[f0, f1, f2, f3, f4])) (h : DataW.trod enc P w base spare held fuel t cs = some x) :
    ∃ y0 y1 y2 y3 y4 n, DataW.trod enc P w base spare held n f0.type ((cs.drop f0.offset).take (P.cellsOf f0.type)) = some y0 ∧
      DataW.trod enc P w base spare held n f1.type ((cs.drop f1.offset).take (P.cellsOf f1.type)) = some y1 ∧ DataW.trod enc P w base spare held n f2.type ((cs.drop f2.offset).take (P.cellsOf f2.type)) = some y2 ∧
      DataW.trod enc P w base spare held n f3.type ((cs.drop f3.offset).take (P.cellsOf f3.type)) = some y3 ∧ DataW.trod enc P w base spare held n f4.type ((cs.drop f4.offset).take (P.cellsOf f4.type)) = some y4 := by
  obtain ⟨xs, n, _, rfl, hl, hlen, hf⟩ := DataW.trod_struct ht h
  match xs, hlen with
  | [y0, y1, y2, y3, y4], _ => exact ⟨y0, y1, y2, y3, y4, n, by simpa using hf 0 f0 rfl, by simpa using hf 1 f1 rfl, by simpa using hf 2 f2 rfl, by simpa using hf 3 f3 rfl, by simpa using hf 4 f4 rfl⟩
set_option maxRecDepth 100000 in
/-- a reply by value: written out -/
theorem reply_of {r : Reach} {b0 : Nat} {v : Value} {d : DataW H} {p : List MemPlace} (hv : Value.okWide Tryd.prog w r b0 28 v) (h : DataW.Trod enc Tryd.prog w base spare held 28 v d p) :
    ∃ (a0 a1 : Int) (A2 : Option Addr) (l2 : List ByteArray) (c2 : Nat) (A3 : Option Addr) (l3 : List (List S43)) (c3 : Nat) (a4 : Bool) (a5 : Int),
      v = .agg #[.int .i64 a0, .int .i64 a1, .slice A2 l2.length c2, .slice A3 l3.length c3, .bool a4, .int .i64 a5] ∧ l2.length ≤ c2 ∧ Kd.C Kd.string w A2 l2.length l2 ∧ l3.length ≤ c3 ∧ Kd.C (Kd.slice 43 k43) w A3 l3.length l3 := by
  obtain ⟨cs, rfl, hsz⟩ := okWide_struct Tryd.underlying28 hv
  obtain ⟨fuel, hf⟩ := h
  obtain ⟨y0, y1, y2, y3, y4, n, g0, g1, g2, g3, g4⟩ := trod_struct5' Tryd.underlying28 hf
  rw [cells28] at hsz
  obtain ⟨cl, rfl⟩ : ∃ cl : List Value, cs = cl.toArray := ⟨cs.toList, by simp⟩
  have hsz2 : cl.length = 6 := by simpa using hsz
  obtain ⟨v0, v1, v2, v3, v4, v5, rfl⟩ : ∃ v0 v1 v2 v3 v4 v5, cl = [v0, v1, v2, v3, v4, v5] := by
    match cl, hsz2 with
    | [v0, v1, v2, v3, v4, v5], _ => exact ⟨v0, v1, v2, v3, v4, v5, rfl⟩
  have hc : (Value.agg [v0, v1, v2, v3, v4, v5].toArray).cells.toList = [v0, v1, v2, v3, v4, v5] := rfl
  rw [hc] at g0 g1 g2 g3 g4
  simp only [cells3, cells25, cells4, cells26, List.drop_zero, List.drop_succ_cons, List.take_succ_cons, List.take_zero] at g0 g1 g2 g3 g4
  obtain ⟨a0, e0, _⟩ := DataW.trod_int Tryd.underlying3 g0
  obtain ⟨a1, e1, _⟩ := DataW.trod_int Tryd.underlying3 g1
  obtain ⟨a4, e4, _⟩ := DataW.trod_bool Tryd.underlying4 g3
  obtain ⟨a5, e5, _⟩ := DataW.trod_int Tryd.underlying26 g4
  obtain ⟨z0, z1, n2, _, _, k0, k1⟩ := trod_struct2 Tryd.underlying25 g2
  simp only [cells22, cells23, List.drop_zero, List.drop_succ_cons, List.take_succ_cons, List.take_zero] at k0 k1
  obtain ⟨A2, l2, c2, e2, hl2, hC2⟩ := vars_of k0
  obtain ⟨A3, l3, c3, e3, hl3, hC3⟩ := rows_of k1
  simp only [List.cons.injEq, and_true] at e0 e1 e2 e3 e4 e5
  subst e0 e1 e2 e3 e4 e5
  exact ⟨a0, a1, A2, l2, c2, A3, l3, c3, a4, a5, rfl, hl2, hC2, hl3, hC3⟩
/-- what was read reads so in a later world -/
theorem trod_later {w' : World} {t : TypeId} {v : Value} {d : DataW H} {p : List MemPlace} (hb : Below w.heap.size w w') (h : DataW.Trod enc Tryd.prog w base spare held t v d p) : DataW.Trod enc Tryd.prog w' base spare held t v d p := by
  obtain ⟨fuel, hf⟩ := h
  exact ⟨fuel, DataW.trod_carry _ _ _ _ hf (fun q hq => hb.same (DataW.trod_lt _ _ _ _ hf q hq))⟩
/-- the rows of what was read are no longer than can be -/
theorem inner_len {A : Option Addr} {l : List (List S43)} (h : Kd.C (Kd.slice 43 k43) w A l.length l) : ∀ z ∈ l, z.length ≤ 9223372036854775807 := by
  intro z hz
  obtain ⟨j, hj⟩ := List.getElem?_of_mem hz
  obtain ⟨ad, _, hc⟩ := h.2.2 (by
    have := (List.getElem?_eq_some_iff.1 hj).1
    omega)
  obtain ⟨c, _, hK, _⟩ := hc j z hj
  obtain ⟨_, _, _, _, hC⟩ := hK
  exact hC.2.1
theorem kids : Kids Tryd.prog (· < Tryd.prog.types.size) := kids_rows (by kernel_rfl) (by kernel_rfl)
theorem size28 : 28 < Tryd.prog.types.size := of_decide_eq_true (by kernel_rfl)
theorem full : ∀ t e, t < Tryd.prog.types.size → Tryd.prog.underlying t = some (.slice e) → 0 < Tryd.prog.cellsOf e := slices_full_of Tryd.prog (by kernel_rfl)
/-- a reply that was read reads so behind the call -/
theorem later_ {w' : World} {v : Value} {d : DataW H} {p : List MemPlace} (hb : Below w.heap.size w w') (h : DataW.Trod enc Tryd.prog w base (fun _ => true) true 28 v d p) : DataW.Trod enc Tryd.prog w' base (fun b => decide (b < w.heap.size)) true 28 v d p := by
  obtain ⟨fuel, hf⟩ := h
  have hlt := DataW.trod_lt _ _ _ _ hf
  exact ⟨fuel, DataW.trod_stays kids (fun {t e} => full t e) (fun h => by cases h) size28 hf (fun q hq => hb.same (hlt q hq)) (fun q hq => decide_eq_true (hlt q hq))⟩
end
end Go.Proofs.YtgabadlneeffkaaDoor
