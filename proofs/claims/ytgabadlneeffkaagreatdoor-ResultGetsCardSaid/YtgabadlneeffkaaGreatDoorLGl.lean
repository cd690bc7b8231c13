/- What the contracts of the library ask of package-level variables: held in every later world. -/
import Derived.Test.YtgabadlneeffkaaGreatDoorShelf
import Derived.Test.YtgabadlneeffkaaGreatDoorLWWords
import Derived.WalkSmall
import Derived.Lib.LaidTab
namespace Go.Proofs.YtgabadlneeffkaaGreatDoor
open Go.RowKit Go.Proofs.YtgabadlneeffkaaGreatDoorW.PrintWords
/-- an empty text, as the walk and the print ask it -/
theorem lp_isE (l : List UInt8) : l.isEmpty = !(l != []) := by cases l <;> rfl
theorem gTab : Tryz.prog.globalNamed "internal/strconv.uint64pow10" = some 2 := by kernel_rfl
theorem gSyn : Tryz.prog.globalNamed "strconv.ErrSyntax" = some 0 := by kernel_rfl
theorem gRan : Tryz.prog.globalNamed "strconv.ErrRange" = some 1 := by kernel_rfl
structure Gl (w : World) : Prop where
  maxLen : ∃ m, w.cell? ⟨3, 0, none⟩ = some (.int .i64 m)
  tab : Lib.TabIs Tryz.prog w "internal/strconv.uint64pow10" .u64 Lib.pow10Tab
  esyn : ∃ tp p, w.var? Tryz.prog "strconv.ErrSyntax" = some #[.iface tp p]
  eran : ∃ tp p, w.var? Tryz.prog "strconv.ErrRange" = some #[.iface tp p]
theorem var_lt {w : World} {P : Program} {n : String} {g : Nat} {cs : Array Value} (hg : P.globalNamed n = some g) (h : w.var? P n = some cs) : g < w.heap.size := by
  unfold World.var? at h
  simp only [hg, Option.bind_some] at h
  rcases Nat.lt_or_ge g w.heap.size with h' | h'
  · exact h'
  simp [Array.getElem?_eq_none h'] at h
theorem Gl.below {w w1 : World} (h : Gl w) (hb : Below w.heap.size w w1) : Gl w1 := by
  refine ⟨?_, ?_, ?_, ?_⟩
  · obtain ⟨m, hm⟩ := h.maxLen
    exact ⟨m, pw_cell_below hb hm⟩
  · exact var?_below hb gTab (var_lt gTab h.tab) h.tab
  · obtain ⟨tp, p, hv⟩ := h.esyn
    exact ⟨tp, p, var?_below hb gSyn (var_lt gSyn hv) hv⟩
  obtain ⟨tp, p, hv⟩ := h.eran
  exact ⟨tp, p, var?_below hb gRan (var_lt gRan hv) hv⟩
end Go.Proofs.YtgabadlneeffkaaGreatDoor
