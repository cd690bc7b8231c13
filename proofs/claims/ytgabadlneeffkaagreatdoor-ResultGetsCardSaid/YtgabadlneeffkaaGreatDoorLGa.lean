import Derived.Test.YtgabadlneeffkaaGreatDoorCards
import Derived.Test.YtgabadlneeffkaaGreatDoorTie
import Derived.Test.YtgabadlneeffkaaGreatDoorLJx
import Derived.WalkKit
import Derived.ProofKit
import Derived.OpenShut
import Derived.ShutString
import Derived.ChangeOld
import Derived.LaidMore
import Derived.Lay
import Derived.Deep.DeepHandedRow
import Derived.Lib.LaidTab
import Derived.Stop.LaidErr
import Derived.Lib.SmallJoins
import Derived.SevenTiedAt
import Derived.DataReads
import Derived.ReadAgain
import Derived.ChangeStays
/- A reply as a row's argument: its value written out, what its slices read as; and that it reads so in every later world. -/
namespace Go.Proofs.YtgabadlneeffkaaGreatDoor
open Go.ChangeShapes Go.WideShapes Go.ChangeAt Go.RowKit Go.Joins
open Go.Proofs.YtgabadlneeffkaaGreatDoorW.PrintWords
open Go.Proofs.YtgabadlneeffkaaGreatDoor.G (S43 k43 z43 k43_mk)
set_option linter.unusedVariables false

section
variable {H : Type} {enc : TypeId × Value → H} {w : World} {base fuel : Nat} {spare : Nat → Bool} {held : Bool}
theorem full : ∀ t e, t < Tryz.prog.types.size → Tryz.prog.underlying t = some (.slice e) → 0 < Tryz.prog.cellsOf e := slices_full_of Tryz.prog (by kernel_rfl)
end
end Go.Proofs.YtgabadlneeffkaaGreatDoor

/- What the rows' lists give (the library's tables and sentinels), a world that holds them, and the parts that the rows share. -/
namespace Go.Proofs.YtgabadlneeffkaaGreatDoor
open Go.ChangeShapes Go.WideShapes Go.ChangeAt Go.RowKit
open Go.ChangeMaps (open_string shut_string)

theorem own : ownKnob Tryz.prog.godebug = none := by kernel_rfl
theorem star : "*" ++ "errors.errorString" = "*errors.errorString" := by decide
theorem cellsE : Tryz.prog.cellsOf 133 = 1 := by kernel_rfl
theorem cells9' : Tryz.prog.cellsOf 9 = 1 := by kernel_rfl
theorem rowE (u : TypeId) (h : Tryz.prog.typeName? 3 u = some "*errors.errorString") : u = 131 :=
  typeName_ptr_named (nm := "errors.errorString") (by rw [star]; kernel_rfl) (by kernel_rfl) (by decide) u (by rw [star]; exact h)
theorem tyTab : (Tryz.prog.globals[2]?).map (·.type) = some 122 := by kernel_rfl
theorem tySyn : (Tryz.prog.globals[0]?).map (·.type) = some 52 := by kernel_rfl
theorem tyRan : (Tryz.prog.globals[1]?).map (·.type) = some 52 := by kernel_rfl
theorem kTab : Tryz.prog.cellsOf 122 = 20 := by kernel_rfl
theorem kEl : Tryz.prog.cellsOf 104 = 1 := by kernel_rfl
set_option maxRecDepth 100000 in
/-- WHAT THE ROW's LIST GIVES, with what the shape of a world gives. -/
theorem gl_of {W : World} (h : laidMetH Tryz.prog Rows.resultChecksRow.laid W) (hs : W.ShapedOpen Tryz.prog) : Gl W := by
  rw [MakeChecks.laidMetH_plain _ _ _ (by kernel_rfl)] at h
  have h2 : laidMet Tryz.prog (("internal/strconv.uint64pow10", Lib.tabData .u64 Lib.pow10Tab) :: _) W := h.tail.tail
  have h5 := h.tail.tail.tail.tail
  obtain ⟨a1, s1, hv1, _⟩ := laid_sentinel h5 gRan tyRan Tryz.underlying52 rowE Tryz.underlying131 Tryz.underlying133 rfl rfl Tryz.underlying9 cellsE cells9'
  obtain ⟨a2, s2, hv2, _⟩ := laid_sentinel h5.tail gSyn tySyn Tryz.underlying52 rowE Tryz.underlying131 Tryz.underlying133 rfl rfl Tryz.underlying9 cellsE cells9'
  exact ⟨cell_of_shapedOpen_int (zero := #[.int .i64 0]) (t := 3) hs (of_decide_eq_true (by kernel_rfl)) (by kernel_rfl) rfl (by kernel_rfl) (by kernel_rfl) Tryz.underlying3,
    Lib.tabIs_of_head gTab tyTab Tryz.underlying122 Tryz.underlying104 kEl kTab h2, ⟨131, _, hv2⟩, ⟨131, _, hv1⟩⟩

/-! ### a world for the witness -/
noncomputable def laidWorld (os : Os) : World := World.laidAll Tryz.prog os Rows.resultChecksRow.laid
set_option maxRecDepth 100000 in
theorem laid_met (os : Os) (args : Array Value) : laidMetH Tryz.prog Rows.resultChecksRow.laid ((laidWorld os).forCall (fun _ _ => 0) ⟨#[], args, []⟩).memory := by
  rw [MakeChecks.laidMetH_plain _ _ _ (by kernel_rfl)]
  exact laidMet_laidAll _ (by kernel_rfl) (by kernel_rfl)
theorem witness {H : Type} {enc : TypeId × Value → H} {os : Os} {f : FuncId} {fn : Func} {s : OpenSpec} {conds : List PathCond} {apart : Bool} {laid : List (String × DataW Unit)} (args : Array Value)
    (hsh : ((laidWorld os).forCall (fun _ _ => 0) ⟨#[], args, []⟩).Shaped Tryz.prog)
    (hok : Input.okWideB Tryz.prog ((laidWorld os).forCall (fun _ _ => 0) ⟨#[], args, []⟩) f ⟨#[], args, []⟩ = true)
    (hrow : s.preRow enc Tryz.prog fn conds apart laid ((laidWorld os).forCall (fun _ _ => 0) ⟨#[], args, []⟩).memory args) :
    ∃ (w : World) (tape : Tape) (i : Input), w.os = os ∧ (w.forCall tape i).Shaped Tryz.prog ∧ i.vars = [] ∧ Input.okWide Tryz.prog (w.forCall tape i) .any w.heap.size f i ∧
      s.preRow enc Tryz.prog fn conds apart laid (w.forCall tape i).memory i.args ∧ ({} : Assume).holds Tryz.prog (lone (Frame.enter Tryz.prog f i.args .normal) [] (w.forCall tape i)) :=
  ⟨laidWorld os, fun _ _ => 0, ⟨#[], args, []⟩, World.laidAll_os _ _ _, hsh, (Input.okWide_of_okWideB (base := 0) hok).1, (Input.okWide_of_okWideB hok).2, hrow, by
    simp [Assume.holds]⟩
set_option maxRecDepth 100000 in
theorem shaped (os : Os) (args : Array Value) : ((laidWorld os).forCall (fun _ _ => 0) ⟨#[], args, []⟩).Shaped Tryz.prog :=
  World.shaped_of_ZipB (by kernel_rfl) (by kernel_rfl)
end Go.Proofs.YtgabadlneeffkaaGreatDoor
