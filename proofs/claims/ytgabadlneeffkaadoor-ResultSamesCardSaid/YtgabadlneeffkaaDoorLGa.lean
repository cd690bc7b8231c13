/- What the rows' lists give (the library's tables and sentinels), a world that holds them, and the parts that the rows share. -/
import Derived.Test.YtgabadlneeffkaaDoorLRw
namespace Go.Proofs.YtgabadlneeffkaaDoor
open Go.ChangeShapes Go.WideShapes Go.ChangeAt Go.RowKit
open Go.ChangeMaps (open_string shut_string)

theorem own : ownKnob Tryd.prog.godebug = none := by kernel_rfl
theorem star : "*" ++ "errors.errorString" = "*errors.errorString" := by decide
theorem cellsE : Tryd.prog.cellsOf 116 = 1 := by kernel_rfl
theorem cells9' : Tryd.prog.cellsOf 9 = 1 := by kernel_rfl
theorem rowE (u : TypeId) (h : Tryd.prog.typeName? 3 u = some "*errors.errorString") : u = 114 :=
  typeName_ptr_named (nm := "errors.errorString") (by rw [star]; kernel_rfl) (by kernel_rfl) (by decide) u (by rw [star]; exact h)
theorem tyTab : (Tryd.prog.globals[2]?).map (·.type) = some 105 := by kernel_rfl
theorem tySyn : (Tryd.prog.globals[0]?).map (·.type) = some 46 := by kernel_rfl
theorem tyRan : (Tryd.prog.globals[1]?).map (·.type) = some 46 := by kernel_rfl
theorem kTab : Tryd.prog.cellsOf 105 = 20 := by kernel_rfl
theorem kEl : Tryd.prog.cellsOf 87 = 1 := by kernel_rfl
set_option maxRecDepth 100000 in
/-- WHAT THE ROW's LIST GIVES, with what the shape of a world gives. -/
theorem gl_of {W : World} (h : laidMetH Tryd.prog Rows.resultBackRow.laid W) (hs : W.ShapedOpen Tryd.prog) : Gl W := by
  rw [MakeChecks.laidMetH_plain _ _ _ (by kernel_rfl)] at h
  have h2 : laidMet Tryd.prog (("internal/strconv.uint64pow10", Lib.tabData .u64 Lib.pow10Tab) :: _) W := h.tail.tail
  have h5 := h.tail.tail.tail.tail
  obtain ⟨a1, s1, hv1, _⟩ := laid_sentinel h5 gRan tyRan Tryd.underlying46 rowE Tryd.underlying114 Tryd.underlying116 rfl rfl Tryd.underlying9 cellsE cells9'
  obtain ⟨a2, s2, hv2, _⟩ := laid_sentinel h5.tail gSyn tySyn Tryd.underlying46 rowE Tryd.underlying114 Tryd.underlying116 rfl rfl Tryd.underlying9 cellsE cells9'
  exact ⟨cell_of_shapedOpen_int (zero := #[.int .i64 0]) (t := 3) hs (of_decide_eq_true (by kernel_rfl)) (by kernel_rfl) rfl (by kernel_rfl) (by kernel_rfl) Tryd.underlying3,
    Lib.tabIs_of_head gTab tyTab Tryd.underlying105 Tryd.underlying87 kEl kTab h2, ⟨114, _, hv2⟩, ⟨114, _, hv1⟩⟩

/-! ### a world for the witness -/
noncomputable def laidWorld (os : Os) : World := World.laidAll Tryd.prog os Rows.resultBackRow.laid
set_option maxRecDepth 100000 in
theorem laid_met (os : Os) (args : Array Value) : laidMetH Tryd.prog Rows.resultBackRow.laid ((laidWorld os).forCall (fun _ _ => 0) ⟨#[], args, []⟩).memory := by
  rw [MakeChecks.laidMetH_plain _ _ _ (by kernel_rfl)]
  exact laidMet_laidAll _ (by kernel_rfl) (by kernel_rfl)
theorem witness {H : Type} {enc : TypeId × Value → H} {os : Os} {f : FuncId} {fn : Func} {s : OpenSpec} {conds : List PathCond} {apart : Bool} {laid : List (String × DataW Unit)} (args : Array Value)
    (hsh : ((laidWorld os).forCall (fun _ _ => 0) ⟨#[], args, []⟩).Shaped Tryd.prog)
    (hok : Input.okWideB Tryd.prog ((laidWorld os).forCall (fun _ _ => 0) ⟨#[], args, []⟩) f ⟨#[], args, []⟩ = true)
    (hrow : s.preRow enc Tryd.prog fn conds apart laid ((laidWorld os).forCall (fun _ _ => 0) ⟨#[], args, []⟩).memory args) :
    ∃ (w : World) (tape : Tape) (i : Input), w.os = os ∧ (w.forCall tape i).Shaped Tryd.prog ∧ i.vars = [] ∧ Input.okWide Tryd.prog (w.forCall tape i) .any w.heap.size f i ∧
      s.preRow enc Tryd.prog fn conds apart laid (w.forCall tape i).memory i.args ∧ ({} : Assume).holds Tryd.prog (lone (Frame.enter Tryd.prog f i.args .normal) [] (w.forCall tape i)) :=
  ⟨laidWorld os, fun _ _ => 0, ⟨#[], args, []⟩, World.laidAll_os _ _ _, hsh, (Input.okWide_of_okWideB (base := 0) hok).1, (Input.okWide_of_okWideB hok).2, hrow, by
    simp [Assume.holds]⟩
set_option maxRecDepth 100000 in
theorem shaped (os : Os) (args : Array Value) : ((laidWorld os).forCall (fun _ _ => 0) ⟨#[], args, []⟩).Shaped Tryd.prog :=
  World.shaped_of_ZipB (by kernel_rfl) (by kernel_rfl)
end Go.Proofs.YtgabadlneeffkaaDoor
