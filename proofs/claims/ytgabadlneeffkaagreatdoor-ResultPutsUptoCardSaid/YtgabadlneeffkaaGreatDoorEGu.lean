import Derived.Test.YtgabadlneeffkaaGreatDoorRows
import Derived.Test.YtgabadlneeffkaaGreatDoorCards
import Derived.Test.YtgabadlneeffkaaGreatDoorTie
import Derived.Test.YtgabadlneeffkaaGreatDoorEZx
import Derived.WalkKit
import Derived.ProofKit
import Derived.OpenShut
import Derived.ShutString
import Derived.ChangeOld
import Derived.LaidMore
import Derived.Lay
import Derived.Deep.DeepHandedRow
import Derived.Lib.LaidTab
import Derived.Stop.LaidErr
import Derived.Lib.SmallJoins
import Derived.SevenTiedAt
import Derived.DataReads
import Derived.ReadAgain
import Derived.ChangeStays
/-
  FOR A PROOF OF AN '..UptoSaid': WHAT THE BOUND GIVES. Copy it as <Name>Bulk.lean (put your seat's Name for YtgabadlneeffkaaGreatDoor, the bound of 'uptoSmall' for 1048576), name it in GOCLAIM.json's 'order' behind <Name>Rows. By an AI agent, Sun Nov 15 2026. No person has read it. No macro, syntax, notation, axiom, sorry.
-/
namespace Go.Proofs.YtgabadlneeffkaaGreatDoor.bulks

theorem one_le {H : Type} (d : DataW H) : 1 ≤ Rows.uptoBulk d := by
  cases d with
  | lit l => cases l <;> simp [Rows.uptoBulk]
  | nil => simp [Rows.uptoBulk]
  | ptr d => simp [Rows.uptoBulk]
  | slice elems spare => simp [Rows.uptoBulk]
  | agg parts => simp [Rows.uptoBulk]
  | iface t d => simp [Rows.uptoBulk]
  | map entries => simp [Rows.uptoBulk]
  | held h => simp [Rows.uptoBulk]

/-- a part's bulk is at most the whole's -/
theorem part_le {H : Type} {d : DataW H} {l : List (DataW H)} (h : d ∈ l) : Rows.uptoBulk d ≤ Rows.uptoBulkAll l := by
  induction l with
  | nil => cases h
  | cons x r ih =>
    simp only [Rows.uptoBulkAll]
    cases List.mem_cons.1 h with
    | inl e => subst e; omega
    | inr e => have := ih e; omega

theorem append {H : Type} (l r : List (DataW H)) : Rows.uptoBulkAll (l ++ r) = Rows.uptoBulkAll l + Rows.uptoBulkAll r := by
  induction l with
  | nil => simp [Rows.uptoBulkAll]
  | cons x l ih => simp only [List.cons_append, Rows.uptoBulkAll, ih]; omega

/-- so many values at the most -/
theorem length_le {H : Type} (l : List (DataW H)) : l.length ≤ Rows.uptoBulkAll l := by
  induction l with
  | nil => simp [Rows.uptoBulkAll]
  | cons x r ih => have := one_le x; simp only [Rows.uptoBulkAll, List.length_cons]; omega

theorem slice_elems {H : Type} (elems spare : List (DataW H)) : Rows.uptoBulkAll elems + 1 ≤ Rows.uptoBulk (.slice elems spare) := by
  simp only [Rows.uptoBulk]
  omega

/-- THE BOUND, as the builder hands it over ('hk') -/
theorem bound {H : Type} {l : List (DataW H)} (hk : Rows.uptoSmall H l = true) : Rows.uptoBulkAll l ≤ 1048576 := by
  simpa [Rows.uptoSmall] using hk

end Go.Proofs.YtgabadlneeffkaaGreatDoor.bulks

/- A reply as a row's argument: its value written out, what its slices read as; and that it reads so in every later world. -/
namespace Go.Proofs.YtgabadlneeffkaaGreatDoor
open Go.ChangeShapes Go.WideShapes Go.ChangeAt Go.RowKit Go.Joins
open Go.Proofs.YtgabadlneeffkaaGreatDoorW.PrintWords
open Go.Proofs.YtgabadlneeffkaaGreatDoor.P (S43 k43 z43 k43_mk)
set_option linter.unusedVariables false

section
variable {H : Type} {enc : TypeId × Value → H} {w : World} {base fuel : Nat} {spare : Nat → Bool} {held : Bool}
theorem row_of_trod {P : Program} {t e : TypeId} {α : Type} (d : Kd α) (Q : α → Nat → Prop) (z : α) (ht : P.underlying t = some (.slice e)) (hz : P.cellsOf e = d.sz)
    (hK : ∀ (n : Nat) (cs : List Value) (y : DataW H × List MemPlace), cs.length = d.sz → DataW.trod enc P w base spare held n e cs = some y → ∃ p, d.K w p cs ∧ Q p (Rows.uptoBulk y.1))
    {cs : List Value} {x : DataW H × List MemPlace} (h : DataW.trod enc P w base spare held fuel t cs = some x) :
    ∃ (A : Option Addr) (l : List α) (c : Nat), cs = [.slice A l.length c] ∧ l.length ≤ c ∧ d.C w A l.length l ∧ l.length ≤ Rows.uptoBulk x.1 ∧ ∀ z ∈ l, ∃ n, n ≤ Rows.uptoBulk x.1 ∧ Q z n := by
  rcases DataW.trod_slice ht h with ⟨rfl, _⟩ | ⟨a, len, cap, elems, rest, n, _, rfl, hx, hb, hlc, hcm, hel, hg, _, _⟩
  · exact ⟨none, [], 0, rfl, Nat.le_refl _, ⟨rfl, by simp, fun h => absurd h (by simp)⟩, Nat.zero_le _, fun z hz => by cases hz⟩
  have hbk : Rows.uptoBulkAll (elems.map (·.1)) + 1 ≤ Rows.uptoBulk x.1 := by rw [hx]; exact bulks.slice_elems _ _
  have hln := bulks.length_le (elems.map (·.1))
  rw [List.length_map] at hln
  have key : ∀ i, i < len → ∃ p : α, (∃ n, n ≤ Rows.uptoBulk x.1 ∧ Q p n) ∧ ∃ c : List Value, c.length = d.sz ∧ d.K w p c ∧ ∀ j u, c[j]? = some u → w.cell? (a.add (i * d.sz + j)) = some u := by
    intro i hi
    have hgi := hg i hi
    obtain ⟨y, hy⟩ : ∃ y, elems[i]? = some y := ⟨_, List.getElem?_eq_getElem (by omega)⟩
    rw [hy] at hgi
    obtain ⟨cs', hcs, htr⟩ := Option.bind_eq_some_iff.1 hgi
    obtain ⟨_, hl, hc⟩ := World.cells?_some hcs
    rw [hz] at hl hc
    obtain ⟨p, hp, hq⟩ := hK n cs' y hl htr
    have hpl := bulks.part_le (show y.1 ∈ elems.map (·.1) from List.mem_map_of_mem (List.mem_of_getElem? hy))
    refine ⟨p, ⟨_, by omega, hq⟩, cs', hl, hp, fun j u hu => ?_⟩
    have hj : j < d.sz := by rw [← hl]; exact (List.getElem?_eq_some_iff.1 hu).1
    rw [← add_add, hc j hj]
    exact hu
  let f : Nat → α := fun i => if h : i < len then Classical.choose (key i h) else z
  have hf : ∀ i, i < len → (∃ n, n ≤ Rows.uptoBulk x.1 ∧ Q (f i) n) ∧ ∃ c : List Value, c.length = d.sz ∧ d.K w (f i) c ∧ ∀ j u, c[j]? = some u → w.cell? (a.add (i * d.sz + j)) = some u := by
    intro i hi
    have : f i = Classical.choose (key i hi) := dif_pos hi
    rw [this]
    exact Classical.choose_spec (key i hi)
  have hll : ((List.range len).map f).length = len := by simp
  refine ⟨some a, (List.range len).map f, cap, by rw [hll], by rw [hll]; exact hlc, ⟨rfl, ?_, fun _ => ⟨a, rfl, ?_⟩⟩, by rw [hll]; omega, ?_⟩
  · rw [hll]
    exact Nat.le_trans hlc hcm
  · intro j p hj
    rw [List.getElem?_map] at hj
    obtain ⟨i, hi, rfl⟩ := Option.map_eq_some_iff.1 hj
    have hjl : j < len := by
      have := (List.getElem?_eq_some_iff.1 hi).1
      simpa using this
    obtain rfl : i = j := by
      rw [List.getElem?_range hjl] at hi
      exact (Option.some.inj hi).symm
    obtain ⟨_, c, h1, h2, h3⟩ := hf i hjl
    exact ⟨c, h1, h2, h3⟩
  intro z hz
  obtain ⟨i, hi, rfl⟩ := List.mem_map.1 hz
  exact (hf i (List.mem_range.1 hi)).1
theorem cells3 : Tryz.prog.cellsOf 3 = 1 := by kernel_rfl
theorem cells9 : Tryz.prog.cellsOf 9 = 1 := by kernel_rfl
theorem cells43 : Tryz.prog.cellsOf 43 = 4 := by kernel_rfl
theorem cells40 : Tryz.prog.cellsOf 40 = 1 := by kernel_rfl
theorem cells22 : Tryz.prog.cellsOf 22 = 1 := by kernel_rfl
theorem cells23 : Tryz.prog.cellsOf 23 = 1 := by kernel_rfl
theorem cells25 : Tryz.prog.cellsOf 25 = 2 := by kernel_rfl
theorem cells26 : Tryz.prog.cellsOf 26 = 1 := by kernel_rfl
theorem cells4 : Tryz.prog.cellsOf 4 = 1 := by kernel_rfl
theorem cells28 : Tryz.prog.cellsOf 28 = 6 := by kernel_rfl
theorem string_K (n : Nat) (cs : List Value) (y : DataW H × List MemPlace) (h : DataW.trod enc Tryz.prog w base spare held n 9 cs = some y) : ∃ p, Kd.string.K w p cs := by
  obtain ⟨s, rfl, _⟩ := DataW.trod_string Tryz.underlying9 h
  exact ⟨s, rfl⟩
theorem term_K (n : Nat) (cs : List Value) (y : DataW H × List MemPlace) (hl : cs.length = 4) (h : DataW.trod enc Tryz.prog w base spare held n 43 cs = some y) : ∃ p, k43.K w p cs := by
  obtain ⟨v0, v1, v2, v3, rfl⟩ : ∃ v0 v1 v2 v3, cs = [v0, v1, v2, v3] := by
    match cs, hl with
    | [v0, v1, v2, v3], _ => exact ⟨v0, v1, v2, v3, rfl⟩
  obtain ⟨y0, y1, y2, y3, m, _, _, h0, h1, h2, h3⟩ := trod_struct4 Tryz.underlying43 h
  simp only [cells3, cells9, List.drop_zero, List.drop_succ_cons, List.take_succ_cons, List.take_zero] at h0 h1 h2 h3
  obtain ⟨k0, e0, _⟩ := DataW.trod_int Tryz.underlying3 h0
  obtain ⟨s1, e1, _⟩ := DataW.trod_string Tryz.underlying9 h1
  obtain ⟨s2, e2, _⟩ := DataW.trod_string Tryz.underlying9 h2
  obtain ⟨s3, e3, _⟩ := DataW.trod_string Tryz.underlying9 h3
  simp only [List.cons.injEq, and_true] at e0 e1 e2 e3
  subst e0 e1 e2 e3
  exact ⟨⟨k0, s1, s2, s3⟩, k43_mk w _⟩
theorem vars_of {cs : List Value} {x : DataW H × List MemPlace} (h : DataW.trod enc Tryz.prog w base spare held fuel 22 cs = some x) : ∃ (A : Option Addr) (l : List ByteArray) (c : Nat), cs = [.slice A l.length c] ∧ l.length ≤ c ∧ Kd.C Kd.string w A l.length l ∧ l.length ≤ Rows.uptoBulk x.1 :=
  let ⟨A, l, c, h1, h2, h3, h4, _⟩ := row_of_trod Kd.string (fun _ _ => True) ByteArray.empty Tryz.underlying22 cells9 (fun n cs y _ h => let ⟨p, hp⟩ := string_K n cs y h; ⟨p, hp, trivial⟩) h
  ⟨A, l, c, h1, h2, h3, h4⟩
theorem row_of {cs : List Value} {x : DataW H × List MemPlace} (h : DataW.trod enc Tryz.prog w base spare held fuel 40 cs = some x) : ∃ (A : Option Addr) (l : List S43) (c : Nat), cs = [.slice A l.length c] ∧ l.length ≤ c ∧ Kd.C k43 w A l.length l ∧ l.length ≤ Rows.uptoBulk x.1 :=
  let ⟨A, l, c, h1, h2, h3, h4, _⟩ := row_of_trod k43 (fun _ _ => True) z43 Tryz.underlying40 cells43 (fun n cs y hl h => let ⟨p, hp⟩ := term_K n cs y hl h; ⟨p, hp, trivial⟩) h
  ⟨A, l, c, h1, h2, h3, h4⟩
theorem rows_of {cs : List Value} {x : DataW H × List MemPlace} (h : DataW.trod enc Tryz.prog w base spare held fuel 23 cs = some x) : ∃ (A : Option Addr) (l : List (List S43)) (c : Nat), cs = [.slice A l.length c] ∧ l.length ≤ c ∧ Kd.C (Kd.slice 43 k43) w A l.length l ∧ l.length ≤ Rows.uptoBulk x.1 ∧ ∀ z ∈ l, ∃ n, n ≤ Rows.uptoBulk x.1 ∧ z.length ≤ n :=
  row_of_trod (Kd.slice 43 k43) (fun z n => z.length ≤ n) [] Tryz.underlying23 cells40 (fun n cs y hl h => by
    obtain ⟨A, l, c, rfl, h1, h2, h3⟩ := row_of h
    exact ⟨l, ⟨A, c, rfl, h1, h2⟩, h3⟩) h
theorem trod_struct5' {P : Program} {t : TypeId} {f0 f1 f2 f3 f4 : Field} {cs : List Value} {x : DataW H × List MemPlace} (ht : P.underlying t = some (.struct #[f0, f1, f2, f3, f4])) (h : DataW.trod enc P w base spare held fuel t cs = some x) :
    ∃ y0 y1 y2 y3 y4 n, x.1 = .agg [y0.1, y1.1, y2.1, y3.1, y4.1] ∧ DataW.trod enc P w base spare held n f0.type ((cs.drop f0.offset).take (P.cellsOf f0.type)) = some y0 ∧
      DataW.trod enc P w base spare held n f1.type ((cs.drop f1.offset).take (P.cellsOf f1.type)) = some y1 ∧ DataW.trod enc P w base spare held n f2.type ((cs.drop f2.offset).take (P.cellsOf f2.type)) = some y2 ∧
      DataW.trod enc P w base spare held n f3.type ((cs.drop f3.offset).take (P.cellsOf f3.type)) = some y3 ∧ DataW.trod enc P w base spare held n f4.type ((cs.drop f4.offset).take (P.cellsOf f4.type)) = some y4 := by
  obtain ⟨xs, n, _, rfl, hl, hlen, hf⟩ := DataW.trod_struct ht h
  match xs, hlen with
  | [y0, y1, y2, y3, y4], _ => exact ⟨y0, y1, y2, y3, y4, n, by simp, by simpa using hf 0 f0 rfl, by simpa using hf 1 f1 rfl, by simpa using hf 2 f2 rfl, by simpa using hf 3 f3 rfl, by simpa using hf 4 f4 rfl⟩
set_option maxRecDepth 100000 in
/-- a reply by value: written out -/
theorem reply_of {r : Reach} {b0 : Nat} {v : Value} {d : DataW H} {p : List MemPlace} (hv : Value.okWide Tryz.prog w r b0 28 v) (h : DataW.Trod enc Tryz.prog w base spare held 28 v d p) :
    ∃ (a0 a1 : Int) (A2 : Option Addr) (l2 : List ByteArray) (c2 : Nat) (A3 : Option Addr) (l3 : List (List S43)) (c3 : Nat) (a4 : Bool) (a5 : Int),
      v = .agg #[.int .i64 a0, .int .i64 a1, .slice A2 l2.length c2, .slice A3 l3.length c3, .bool a4, .int .i64 a5] ∧ l2.length ≤ c2 ∧ Kd.C Kd.string w A2 l2.length l2 ∧ l3.length ≤ c3 ∧ Kd.C (Kd.slice 43 k43) w A3 l3.length l3 ∧ l2.length ≤ Rows.uptoBulk d ∧ l3.length ≤ Rows.uptoBulk d ∧ ∀ z ∈ l3, z.length ≤ Rows.uptoBulk d := by
  obtain ⟨cs, rfl, hsz⟩ := okWide_struct Tryz.underlying28 hv
  obtain ⟨fuel, hf⟩ := h
  obtain ⟨y0, y1, y2, y3, y4, n, gx, g0, g1, g2, g3, g4⟩ := trod_struct5' Tryz.underlying28 hf
  rw [cells28] at hsz
  obtain ⟨cl, rfl⟩ : ∃ cl : List Value, cs = cl.toArray := ⟨cs.toList, by simp⟩
  have hsz2 : cl.length = 6 := by simpa using hsz
  obtain ⟨v0, v1, v2, v3, v4, v5, rfl⟩ : ∃ v0 v1 v2 v3 v4 v5, cl = [v0, v1, v2, v3, v4, v5] := by
    match cl, hsz2 with
    | [v0, v1, v2, v3, v4, v5], _ => exact ⟨v0, v1, v2, v3, v4, v5, rfl⟩
  have hc : (Value.agg [v0, v1, v2, v3, v4, v5].toArray).cells.toList = [v0, v1, v2, v3, v4, v5] := rfl
  rw [hc] at g0 g1 g2 g3 g4
  simp only [cells3, cells25, cells4, cells26, List.drop_zero, List.drop_succ_cons, List.take_succ_cons, List.take_zero] at g0 g1 g2 g3 g4
  obtain ⟨a0, e0, _⟩ := DataW.trod_int Tryz.underlying3 g0
  obtain ⟨a1, e1, _⟩ := DataW.trod_int Tryz.underlying3 g1
  obtain ⟨a4, e4, _⟩ := DataW.trod_bool Tryz.underlying4 g3
  obtain ⟨a5, e5, _⟩ := DataW.trod_int Tryz.underlying26 g4
  obtain ⟨z0, z1, n2, gz, _, k0, k1⟩ := trod_struct2 Tryz.underlying25 g2
  simp only [cells22, cells23, List.drop_zero, List.drop_succ_cons, List.take_succ_cons, List.take_zero] at k0 k1
  obtain ⟨A2, l2, c2, e2, hl2, hC2, hu2⟩ := vars_of k0
  obtain ⟨A3, l3, c3, e3, hl3, hC3, hu3, hi3⟩ := rows_of k1
  have b0 : Rows.uptoBulk y2.1 ≤ Rows.uptoBulk d := by
    rw [show d = .agg [y0.1, y1.1, y2.1, y3.1, y4.1] from gx]
    simp only [Rows.uptoBulk, Rows.uptoBulkAll]
    omega
  have b1 : Rows.uptoBulk z0.1 + Rows.uptoBulk z1.1 ≤ Rows.uptoBulk y2.1 := by
    rw [gz]
    simp only [Rows.uptoBulk, Rows.uptoBulkAll]
    omega
  simp only [List.cons.injEq, and_true] at e0 e1 e2 e3 e4 e5
  subst e0 e1 e2 e3 e4 e5
  exact ⟨a0, a1, A2, l2, c2, A3, l3, c3, a4, a5, rfl, hl2, hC2, hl3, hC3, by omega, by omega, fun z hz => by obtain ⟨n, h1, h2⟩ := hi3 z hz; omega⟩
theorem kids : Kids Tryz.prog (· < Tryz.prog.types.size) := kids_rows (by kernel_rfl) (by kernel_rfl)
theorem size28 : 28 < Tryz.prog.types.size := of_decide_eq_true (by kernel_rfl)
theorem full : ∀ t e, t < Tryz.prog.types.size → Tryz.prog.underlying t = some (.slice e) → 0 < Tryz.prog.cellsOf e := slices_full_of Tryz.prog (by kernel_rfl)
/-- a reply that was read reads so behind the call -/
theorem later_ {w' : World} {v : Value} {d : DataW H} {p : List MemPlace} (hb : Below w.heap.size w w') (h : DataW.Trod enc Tryz.prog w base (fun _ => true) true 28 v d p) : DataW.Trod enc Tryz.prog w' base (fun b => decide (b < w.heap.size)) true 28 v d p := by
  obtain ⟨fuel, hf⟩ := h
  have hlt := DataW.trod_lt _ _ _ _ hf
  exact ⟨fuel, DataW.trod_stays kids (fun {t e} => full t e) (fun h => by cases h) size28 hf (fun q hq => hb.same (hlt q hq)) (fun q hq => decide_eq_true (hlt q hq))⟩
end
end Go.Proofs.YtgabadlneeffkaaGreatDoor

/- What the rows' lists give (the library's tables and sentinels), a world that holds them, and the parts that the rows share. -/
namespace Go.Proofs.YtgabadlneeffkaaGreatDoor
open Go.ChangeShapes Go.WideShapes Go.ChangeAt Go.RowKit
open Go.ChangeMaps (open_string shut_string)

theorem own : ownKnob Tryz.prog.godebug = none := by kernel_rfl
theorem star : "*" ++ "errors.errorString" = "*errors.errorString" := by decide
theorem cellsE : Tryz.prog.cellsOf 133 = 1 := by kernel_rfl
theorem cells9' : Tryz.prog.cellsOf 9 = 1 := by kernel_rfl
theorem rowE (u : TypeId) (h : Tryz.prog.typeName? 3 u = some "*errors.errorString") : u = 131 :=
  typeName_ptr_named (nm := "errors.errorString") (by rw [star]; kernel_rfl) (by kernel_rfl) (by decide) u (by rw [star]; exact h)
theorem tyTab : (Tryz.prog.globals[2]?).map (·.type) = some 122 := by kernel_rfl
theorem tySyn : (Tryz.prog.globals[0]?).map (·.type) = some 52 := by kernel_rfl
theorem tyRan : (Tryz.prog.globals[1]?).map (·.type) = some 52 := by kernel_rfl
theorem kTab : Tryz.prog.cellsOf 122 = 20 := by kernel_rfl
theorem kEl : Tryz.prog.cellsOf 104 = 1 := by kernel_rfl
set_option maxRecDepth 100000 in
/-- WHAT THE ROW's LIST GIVES, with what the shape of a world gives. -/
theorem gl_of {W : World} (h : laidMetH Tryz.prog Rows.resultChecksRow.laid W) (hs : W.ShapedOpen Tryz.prog) : Gl W := by
  rw [MakeChecks.laidMetH_plain _ _ _ (by kernel_rfl)] at h
  have h2 : laidMet Tryz.prog (("internal/strconv.uint64pow10", Lib.tabData .u64 Lib.pow10Tab) :: _) W := h.tail.tail
  have h5 := h.tail.tail.tail.tail
  obtain ⟨a1, s1, hv1, _⟩ := laid_sentinel h5 gRan tyRan Tryz.underlying52 rowE Tryz.underlying131 Tryz.underlying133 rfl rfl Tryz.underlying9 cellsE cells9'
  obtain ⟨a2, s2, hv2, _⟩ := laid_sentinel h5.tail gSyn tySyn Tryz.underlying52 rowE Tryz.underlying131 Tryz.underlying133 rfl rfl Tryz.underlying9 cellsE cells9'
  exact ⟨cell_of_shapedOpen_int (zero := #[.int .i64 0]) (t := 3) hs (of_decide_eq_true (by kernel_rfl)) (by kernel_rfl) rfl (by kernel_rfl) (by kernel_rfl) Tryz.underlying3,
    Lib.tabIs_of_head gTab tyTab Tryz.underlying122 Tryz.underlying104 kEl kTab h2, ⟨131, _, hv2⟩, ⟨131, _, hv1⟩⟩

/-! ### a world for the witness -/
noncomputable def laidWorld (os : Os) : World := World.laidAll Tryz.prog os Rows.resultChecksRow.laid
set_option maxRecDepth 100000 in
theorem laid_met (os : Os) (args : Array Value) : laidMetH Tryz.prog Rows.resultChecksRow.laid ((laidWorld os).forCall (fun _ _ => 0) ⟨#[], args, []⟩).memory := by
  rw [MakeChecks.laidMetH_plain _ _ _ (by kernel_rfl)]
  exact laidMet_laidAll _ (by kernel_rfl) (by kernel_rfl)
theorem witness {H : Type} {enc : TypeId × Value → H} {os : Os} {f : FuncId} {fn : Func} {s : OpenSpec} {conds : List PathCond} {apart : Bool} {laid : List (String × DataW Unit)} (args : Array Value)
    (hsh : ((laidWorld os).forCall (fun _ _ => 0) ⟨#[], args, []⟩).Shaped Tryz.prog)
    (hok : Input.okWideB Tryz.prog ((laidWorld os).forCall (fun _ _ => 0) ⟨#[], args, []⟩) f ⟨#[], args, []⟩ = true)
    (hrow : s.preRow enc Tryz.prog fn conds apart laid ((laidWorld os).forCall (fun _ _ => 0) ⟨#[], args, []⟩).memory args) :
    ∃ (w : World) (tape : Tape) (i : Input), w.os = os ∧ (w.forCall tape i).Shaped Tryz.prog ∧ i.vars = [] ∧ Input.okWide Tryz.prog (w.forCall tape i) .any w.heap.size f i ∧
      s.preRow enc Tryz.prog fn conds apart laid (w.forCall tape i).memory i.args ∧ ({} : Assume).holds Tryz.prog (lone (Frame.enter Tryz.prog f i.args .normal) [] (w.forCall tape i)) :=
  ⟨laidWorld os, fun _ _ => 0, ⟨#[], args, []⟩, World.laidAll_os _ _ _, hsh, (Input.okWide_of_okWideB (base := 0) hok).1, (Input.okWide_of_okWideB hok).2, hrow, by
    simp [Assume.holds]⟩
set_option maxRecDepth 100000 in
theorem shaped (os : Os) (args : Array Value) : ((laidWorld os).forCall (fun _ _ => 0) ⟨#[], args, []⟩).Shaped Tryz.prog :=
  World.shaped_of_ZipB (by kernel_rfl) (by kernel_rfl)
end Go.Proofs.YtgabadlneeffkaaGreatDoor
