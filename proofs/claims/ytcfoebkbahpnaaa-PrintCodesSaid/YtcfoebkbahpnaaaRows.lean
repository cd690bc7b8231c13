/-
  No cell of these rows narrows 'for every input' (looked for: loops, veiled, ifaces, maps, wideKeys, modest, calm, conditions, laid).
  DERIVED. THE GIVEN ROWS OF THIS SEAT. 3 by the template 'for every input the law returns true; each argument reads behind the call as it read before'; 0 by the template 'total and deterministic' (their statements: YtcfoebkbahpnaaaTotals.lean).
  GIVEN WITH THE SEED: the statements are not yours to turn. If you find one false, say at which input.
  Laid BY PROGRAM, IN A SANDBOX (cutbox-rows.mjs): the forced cells as the released guide's own fill.sh prints them over the translation 6c2d77d2130f7d24… (all of the seat's roots in one cut). By AI agents, Wed Nov 11 2026. No macro, syntax, notation, axiom, sorry.
-/
import Derived.Test.YtcfoebkbahpnaaaChecked
import GoSem.Claim
import GoSem.ClaimJoined
import GoSem.ClaimMapViews
import Derived.JoinedTies
import Derived.KernelRfl
namespace Go.Proofs.Ytcfoebkbahpnaaa
/- THE CELL 'sum', in the pinned program and in every row, IS THE sha256 OF THE DUMP (.gsa) THAT YtcfoebkbahpnaaaProg.lean LOADS. Nothing in Lean hashes anything: it is a label: what it is worth is what the hold of that sum in a sandbox is worth. -/
noncomputable def Try.pinned : Pinned := { name := "ytcfoebkbahpnaaa", sum := "6c2d77d2130f7d24e292526e20205aab29caacb84ecd34f36f917daed6d8385e", checked := Try.checked }
namespace Rows
def none {H : Type} : Left H := { results := [], args := [] }

/-- 'legationlaw21.PlanTasks': WHATEVER THE INPUT: true; the input reads as it did. -/
def planTasksSpec : ChangeSpec := { name := "planTasks", fn := fun _ => fun
  | [d1, d2] => { results := [.lit (.bool true)], args := [d1, d2] }
  | _ => none }
def planTasksRow : OpenClaim := { program := "ytcfoebkbahpnaaa", sum := "6c2d77d2130f7d24e292526e20205aab29caacb84ecd34f36f917daed6d8385e", func := "legation/legationlaw21.PlanTasks", spec := "planTasks", unfollowed := true, recurses := true, apart := false }
def PlanTasksSaid : Prop := planTasksRow.holds Try.pinned (OpenSpec.ofChange planTasksSpec)

/-- ITS FALSE NEIGHBOUR: 'it returns false'. Refute it at one input. -/
def planTasksWrong : ChangeSpec := { name := "planTasks", fn := fun _ => fun
  | [d1, d2] => { results := [.lit (.bool false)], args := [d1, d2] }
  | _ => none }
def PlanTasksWrongFalsely : Prop := planTasksRow.holds Try.pinned (OpenSpec.ofChange planTasksWrong)

/-- 'legationlaw21.PlanApart': WHATEVER THE INPUT: true; the input reads as it did. -/
def planApartSpec : ChangeSpec := { name := "planApart", fn := fun _ => fun
  | [d1, d2] => { results := [.lit (.bool true)], args := [d1, d2] }
  | _ => none }
def planApartRow : OpenClaim := { program := "ytcfoebkbahpnaaa", sum := "6c2d77d2130f7d24e292526e20205aab29caacb84ecd34f36f917daed6d8385e", func := "legation/legationlaw21.PlanApart", spec := "planApart", unfollowed := true, recurses := true, apart := false }
def PlanApartSaid : Prop := planApartRow.holds Try.pinned (OpenSpec.ofChange planApartSpec)

/-- ITS FALSE NEIGHBOUR: 'it returns false'. Refute it at one input. -/
def planApartWrong : ChangeSpec := { name := "planApart", fn := fun _ => fun
  | [d1, d2] => { results := [.lit (.bool false)], args := [d1, d2] }
  | _ => none }
def PlanApartWrongFalsely : Prop := planApartRow.holds Try.pinned (OpenSpec.ofChange planApartWrong)

/-- 'legationlaw09.PrintCodes': WHATEVER THE INPUT: true; the input reads as it did. -/
def printCodesSpec : ChangeSpec := { name := "printCodes", fn := fun _ => fun
  | [d] => { results := [.lit (.bool true)], args := [d] }
  | _ => none }
def printCodesRow : OpenClaim := { program := "ytcfoebkbahpnaaa", sum := "6c2d77d2130f7d24e292526e20205aab29caacb84ecd34f36f917daed6d8385e", func := "legation/legationlaw09.PrintCodes", spec := "printCodes", inPlace := ["internal/abi.NoEscape", "internal/bytealg.MakeNoZero"], unfollowed := true, recurses := true, apart := false }
def PrintCodesSaid : Prop := printCodesRow.holds Try.pinned (OpenSpec.ofChange printCodesSpec)

/-- ITS FALSE NEIGHBOUR: 'it returns false'. Refute it at one input. -/
def printCodesWrong : ChangeSpec := { name := "printCodes", fn := fun _ => fun
  | [d] => { results := [.lit (.bool false)], args := [d] }
  | _ => none }
def PrintCodesWrongFalsely : Prop := printCodesRow.holds Try.pinned (OpenSpec.ofChange printCodesWrong)

/- THE SECOND FORM. 'bulk': how many values and letters a reading holds, each counted each time it is reached (what is shared counts as often as it is met; a slice's spare places count too). A statement '..UptoSaid' is the law's where the arguments, and the package variables that the reading takes, are together of bulk at most 1048576: NARROWER than '..Said'. Prove '..Said' where nothing that the law and all that it calls make is longer than what came in: it says more and counts as full. Else prove '..UptoSaid'. A law counts once. -/
mutual
def uptoBulk {H : Type} : DataW H → Nat
  | .lit (.string bytes) => bytes.length + 1
  | .lit _ => 1
  | .nil => 1
  | .ptr d => uptoBulk d + 1
  | .slice elems spare => uptoBulkAll elems + uptoBulkAll spare + 1
  | .agg parts => uptoBulkAll parts + 1
  | .iface _ d => uptoBulk d + 1
  | .map entries => uptoBulkEntries entries + 1
  | .held _ => 1
def uptoBulkAll {H : Type} : List (DataW H) → Nat
  | [] => 0
  | d :: r => uptoBulk d + uptoBulkAll r
def uptoBulkEntries {H : Type} : List (Lit × DataW H) → Nat
  | [] => 0
  | x :: r => uptoBulkEntry x + uptoBulkEntries r
def uptoBulkEntry {H : Type} : Lit × DataW H → Nat
  | (.string bytes, d) => bytes.length + uptoBulk d + 1
  | (_, d) => uptoBulk d + 1
 end
def uptoSmall : (H : Type) → List (DataW H) → Bool := fun _ ds => decide (uptoBulkAll ds ≤ 1048576)
def OpenSpec.upto (s : _root_.Go.ChangeSpec) : _root_.Go.OpenSpec := { _root_.Go.OpenSpec.ofChange s with cond := some uptoSmall }

/-- 'legationlaw21.PlanTasks', WHERE WHAT IT READS IS OF BULK AT MOST 1048576: true; the input reads as it did. -/
def planTasksUptoRow : OpenClaim := { program := "ytcfoebkbahpnaaa", sum := "6c2d77d2130f7d24e292526e20205aab29caacb84ecd34f36f917daed6d8385e", func := "legation/legationlaw21.PlanTasks", spec := "planTasks", unfollowed := true, recurses := true, apart := false, narrowed := true }
def PlanTasksUptoSaid : Prop := planTasksUptoRow.holds Try.pinned (OpenSpec.upto planTasksSpec)

/-- 'legationlaw21.PlanApart', WHERE WHAT IT READS IS OF BULK AT MOST 1048576: true; the input reads as it did. -/
def planApartUptoRow : OpenClaim := { program := "ytcfoebkbahpnaaa", sum := "6c2d77d2130f7d24e292526e20205aab29caacb84ecd34f36f917daed6d8385e", func := "legation/legationlaw21.PlanApart", spec := "planApart", unfollowed := true, recurses := true, apart := false, narrowed := true }
def PlanApartUptoSaid : Prop := planApartUptoRow.holds Try.pinned (OpenSpec.upto planApartSpec)

/-- 'legationlaw09.PrintCodes', WHERE WHAT IT READS IS OF BULK AT MOST 1048576: true; the input reads as it did. -/
def printCodesUptoRow : OpenClaim := { program := "ytcfoebkbahpnaaa", sum := "6c2d77d2130f7d24e292526e20205aab29caacb84ecd34f36f917daed6d8385e", func := "legation/legationlaw09.PrintCodes", spec := "printCodes", inPlace := ["internal/abi.NoEscape", "internal/bytealg.MakeNoZero"], unfollowed := true, recurses := true, apart := false, narrowed := true }
def PrintCodesUptoSaid : Prop := printCodesUptoRow.holds Try.pinned (OpenSpec.upto printCodesSpec)

end Rows
end Go.Proofs.Ytcfoebkbahpnaaa
