/- Maps with numbers for keys and bools in them: what each number reads as. -/
import Derived.Test.YtcfoebkbahpnaaaProg
import Derived.Test.YtcfoebkbahpnaaaQWWords
import Derived.Test.YtcfoebkbahpnaaaQWLast
import Derived.Test.YtcfoebkbahpnaaaQWMore
import Derived.Maps.OwnIn
import Derived.Maps.OwnSet
import Derived.Maps.OwnOps
namespace Go.Proofs.Ytcfoebkbahpnaaa.K
open Go.RowKit Go.ChangeMaps Go.WideShapes Go.WideMaps Go.Proofs.YtcfoebkbahpnaaaW.PrintWords Go.Proofs.YtcfoebkbahpnaaaW.PrintLast
/-- block b is a map of at most n entries; the numbers of p read as true -/
def MapI (w : World) (b n : Nat) (p : Int → Bool) : Prop := ∃ D : DataW Unit, w.ownsMap Try.prog 3 (plainElem Try.prog 4) b n D ∧ ∀ j : Int, (Lit.int .i64 j).wf = true → D.atKey (.int .i64 j) (.lit (.bool false)) = .lit (.bool (p j))
theorem miK : Maps.Keyed Try.prog 3 := Maps.int_keyed Try.underlying3
theorem mi_wf {j : Int} (h0 : 0 ≤ j) (h1 : j < 9223372036854775808) : (Lit.int .i64 j).wf = true := by
  simp [Lit.wf, IntKind.min, IntKind.max, IntKind.signed, IntKind.bits]
  omega
theorem MapI.made (w : World) : MapI (w.alloc (.map #[] 0)) w.heap.size 0 (fun _ => false) := ⟨.map [], World.ownsMap_made w _ _ _, fun j _ => by simp [DataW.atKey]⟩
theorem MapI.lt {w : World} {b n : Nat} {p : Int → Bool} (h : MapI w b n p) : b < w.heap.size := h.choose_spec.1.lt
theorem MapI.mono {w : World} {b n m : Nat} {p : Int → Bool} (h : MapI w b n p) (hn : n ≤ m) : MapI w b m p := by
  obtain ⟨D, h1, h2⟩ := h
  exact ⟨D, h1.mono hn, h2⟩
theorem MapI.like {w : World} {b n : Nat} {p q : Int → Bool} (h : MapI w b n p) (e : ∀ j, p j = q j) : MapI w b n q := by
  obtain ⟨D, h1, h2⟩ := h
  exact ⟨D, h1, fun j hj => (h2 j hj).trans (by rw [e j])⟩
theorem MapI.grown {w w1 : World} {row : Option Nat} {b n : Nat} {p : Int → Bool} (h : MapI w b n p) (hg : w.grownBy w1 row) (hne : some b ≠ row) : MapI w1 b n p := by
  obtain ⟨D, h1, h2⟩ := h
  exact ⟨D, h1.kept hg hne, h2⟩
theorem MapI.below {w w1 : World} {b n : Nat} {p : Int → Bool} (h : MapI w b n p) (hb : Below w.heap.size w w1) : MapI w1 b n p := h.grown (grown_of_below hb none) (by simp)
theorem MapI.set {w : World} {b n : Nat} {p : Int → Bool} (h : MapI w b n p) {a : Addr} (ha : b ≠ a.block) (u : Value) : MapI (w.setCell a u) b n p := by
  obtain ⟨D, h1, h2⟩ := h
  exact ⟨D, h1.setCell ha u, h2⟩
theorem MapI.ne {w : World} {b n g : Nat} {p : Int → Bool} {cs : Array Value} {t : TypeId} (h : MapI w b n p) (hg : w.heap[g]? = some (.cells cs t (0, 0))) : b ≠ g := by
  rintro rfl
  obtain ⟨D, ⟨es, cl, h1, _⟩, _⟩ := h
  rw [h1] at hg
  cases hg
theorem mi_bool {P : Program} {e : TypeId} (he : P.underlying e = some .bool) {v : Value} {d : DataW Unit} {ps : List MemPlace} (h : plainElem P e v = some (d, ps)) : ∃ c, v = .bool c ∧ d = .lit (.bool c) := by
  unfold plainElem at h
  rw [he] at h
  cases v with
  | bool c => exact ⟨c, rfl, (congrArg Prod.fst (Option.some.inj h)).symm⟩
  | _ => cases h
theorem mi_inj {a b : Bool} (h : (DataW.lit (.bool a) : DataW Unit) = .lit (.bool b)) : a = b := by
  injection h with h
  injection h
theorem MapI.run_get {w : World} {t b n : Nat} {p : Int → Bool} (ht : Try.prog.underlying t = some (.map 3 4)) (hz : (zeroValue 4).run Try.prog w = .ok (.bool false) w) (h : MapI w b n p) {j : Int} (hj : (Lit.int .i64 j).wf = true) :
    (Instr.lookup t (.map (some b)) (.int .i64 j) false).run Try.prog w = .ok (.bool (p j)) w := by
  obtain ⟨D, h1, h2⟩ := h
  obtain ⟨v, ps, hrun, hv⟩ := h1.lookup miK ht hz (plainElem_bool Try.underlying4 false) (Maps.keyOf_int_mk Try.underlying3 hj)
  obtain ⟨c, rfl, hd⟩ := mi_bool Try.underlying4 hv
  rw [mi_inj ((h2 j hj).symm.trans hd)]
  exact hrun
section
variable {ops : Array Oper} {rest : List Oper} {o : Oper} {a : Act} {Q : Exit → Act → World → Prop}
theorem MapI.wp_put (w : World) (hg : o.guard = none) (m x v : Operand) (t : TypeId) (hop : o.op = Op.mapUpdate t m x v) (ht : Try.prog.underlying t = some (.map 3 4)) (b n : Nat) (p : Int → Bool)
    (hm : a.eval m = .map (some b)) (h : MapI w b n p) (hn : n < maxLen) (j : Int) (hj : (Lit.int .i64 j).wf = true) (hx : a.eval x = .int .i64 j) (hv : a.eval v = .bool true)
    (hK : ∀ w', MapI w' b (n + 1) (fun i => p i || i == j) → w.grownBy w' (some b) → wpList Try.prog ops Q rest (a.put o.dst undef) w') : wpList Try.prog ops Q (o :: rest) a w := by
  obtain ⟨D, h1, h2⟩ := h
  refine wpList_mapUpdate_own w hg m x v t hop 3 4 miK ht _ b n D hm h1 hn _ _ _ hx hv (Maps.keyOf_int_mk Try.underlying3 hj) _ [] (plainElem_bool Try.underlying4 true) fun w' r1 r2 => hK w' ⟨_, r1, fun i hi => ?_⟩ r2
  by_cases e : i = j
  · subst e
    rw [Maps.atKey_put_same h1.isMap (miK.key (Maps.keyOf_int_mk Try.underlying3 hj))]
    simp
  rw [Maps.atKey_put_other (fun h => e (by injection h)), h2 i hi]
  simp [e]
theorem MapI.wp_del (w : World) (hg : o.guard = none) (m x : Operand) (t : TypeId) (hop : o.op = Op.call { callee := Callee.builtin Builtin.delete, args := #[m, x], argTypes := #[t, 3] }) (ht : Try.prog.underlying t = some (.map 3 4)) (b n : Nat) (p : Int → Bool)
    (hm : a.eval m = .map (some b)) (h : MapI w b n p) (j : Int) (hj : (Lit.int .i64 j).wf = true) (hx : a.eval x = .int .i64 j)
    (hK : ∀ w', MapI w' b n (fun i => p i && !(i == j)) → w.grownBy w' (some b) → wpList Try.prog ops Q rest (a.put o.dst (.tuple #[])) w') : wpList Try.prog ops Q (o :: rest) a w := by
  obtain ⟨D, h1, h2⟩ := h
  refine wpList_delete_own w hg m x t 3 hop 4 miK ht _ b n D hm h1 _ _ hx (Maps.keyOf_int_mk Try.underlying3 hj) fun w' r1 r2 => hK w' ⟨_, r1, fun i hi => ?_⟩ r2.grown
  by_cases e : i = j
  · subst e
    rw [Maps.atKey_del_same]
    simp
  rw [Maps.atKey_del_other (fun h => e (by injection h)), h2 i hi]
  simp [e]
end
end Go.Proofs.Ytcfoebkbahpnaaa.K
