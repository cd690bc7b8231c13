import Derived.Test.YtcfoebkbahpnaaaProg
import Derived.Below
import Derived.Deep.Draws
import Derived.Deep.AppendLies
import Derived.Maps.AppendAt
import Derived.OwnWalk
import Derived.Laws.BytesArg
import Derived.Laws.MakeOwn
import Derived.Laws.OwnMore
import Derived.Deep.OwnRows
import Derived.Tactics
import Derived.Lib.ConvBytes
import Derived.Laws.Slices
import Derived.WalkKit
import Derived.KernelRfl
import Derived.RowKit3
import Derived.Deep.LoopGhost
import Derived.Deep.QuietTactic
import Derived.BigQuiet
import Derived.WideLaws
import Derived.Deep.DeepCutAuto
import Derived.Deep.CutBlock
import Derived.Deep.RegionHeld3
import Derived.Laws.Rows
import Derived.Lib.AppendStr
import Derived.ArgAppend
import Derived.Laws.IdiomCopy
import Derived.OrdersHeld
import Derived.Laws.BitsLemmas
import Derived.RowKit
import Derived.Deep.RegionHeld3
import Derived.WalkLawsBesides
import Derived.Lib.OthersKept
import Derived.Laws.RangeAny
import Derived.LoopN
import Derived.Lib.Strings
import Derived.Test.YtcfoebkbahpnaaaQMp
import Derived.Test.YtcfoebkbahpnaaaQMi
import Derived.Test.YtcfoebkbahpnaaaQWWords
import Derived.Test.YtcfoebkbahpnaaaQWLast
import Derived.Test.YtcfoebkbahpnaaaQWTab
import Derived.Test.YtcfoebkbahpnaaaQWFour
import Derived.Test.YtcfoebkbahpnaaaQWQPut
import Derived.Test.YtcfoebkbahpnaaaQWApart
import Derived.Test.YtcfoebkbahpnaaaQWArr
import Derived.Test.YtcfoebkbahpnaaaQWZeros
import Derived.Test.YtcfoebkbahpnaaaQWFoot
import Derived.Test.YtcfoebkbahpnaaaQWKept
import Derived.Test.YtcfoebkbahpnaaaQWShare
import Derived.Test.YtcfoebkbahpnaaaQWN
import Derived.Test.YtcfoebkbahpnaaaQWFootNe
import Derived.Test.YtcfoebkbahpnaaaQWAt
import Derived.Test.YtcfoebkbahpnaaaQWEqStruct
import Derived.Test.YtcfoebkbahpnaaaQWRepsOne
import Derived.Test.YtcfoebkbahpnaaaQWInv
import Derived.Test.YtcfoebkbahpnaaaQWInvWords
import Derived.Test.YtcfoebkbahpnaaaQWGuard
import Derived.Test.YtcfoebkbahpnaaaQWNEv
import Derived.Test.YtcfoebkbahpnaaaQWMore
namespace Go.Proofs.Ytcfoebkbahpnaaa
open Go.RowKit Go.Proofs.YtcfoebkbahpnaaaW.PrintWords Go.Proofs.YtcfoebkbahpnaaaW.PrintLast
theorem zA {p : Prop} (h : p) : Aside0 p := ⟨h⟩
theorem zS {w W w2 : World} (h : Below w.heap.size w W) (k : Below W.heap.size W w2) : Aside0 (Below w.heap.size w w2) := ⟨below_step h k⟩
theorem zB {w w1 : World} {g : Nat} {o : Obj} (h : w.heap[g]? = some o) (hb : Below w.heap.size w w1) : Aside0 (w1.heap[g]? = some o) := ⟨blk_below h hb⟩
theorem zZ {w W : World} {g : Nat} (h : Below w.heap.size w W) (hg : g = W.heap.size) : Aside0 (w.heap.size ≤ g) := ⟨hg ▸ below_size h⟩
theorem zL {W : World} {g g1 : Nat} {o : Obj} (h : W.heap[g]? = some o) (hg : g1 = W.heap.size) : Aside0 (g ≠ g1) := ⟨hg ▸ Nat.ne_of_lt (blk_lt h)⟩
theorem zG {W : World} {g g1 : Nat} {o : Obj} (h : W.heap[g]? = some o) (hg : g1 = W.heap.size) : Aside0 (g1 ≠ g) := ⟨hg ▸ Nat.ne_of_gt (blk_lt h)⟩
theorem zD {p : Prop} [Decidable p] (h : decide p = true := by with_reducible assumption) : p := of_decide_eq_true h
theorem zO {α β : Type} {x : Option α} {f : α → Option β} {b : β} (h : x.bind f = some b) : ∃ a, x = some a ∧ f a = some b := Option.bind_eq_some_iff.mp h
theorem zc20 {w : World} {g : Nat} {t : TypeId} {v0 v1 : Value} (h : w.heap[g]? = some (.cells #[v0, v1] t (0, 0))) : w.cell? ⟨g, 0, none⟩ = some v0 := (blk_cell h 0).trans rfl
theorem zc21 {w : World} {g : Nat} {t : TypeId} {v0 v1 : Value} (h : w.heap[g]? = some (.cells #[v0, v1] t (0, 0))) : w.cell? ⟨g, 1, none⟩ = some v1 := (blk_cell h 1).trans rfl
theorem zc40 {w : World} {g : Nat} {t : TypeId} {v0 v1 v2 v3 : Value} (h : w.heap[g]? = some (.cells #[v0, v1, v2, v3] t (0, 0))) : w.cell? ⟨g, 0, none⟩ = some v0 := (blk_cell h 0).trans rfl
theorem zc41 {w : World} {g : Nat} {t : TypeId} {v0 v1 v2 v3 : Value} (h : w.heap[g]? = some (.cells #[v0, v1, v2, v3] t (0, 0))) : w.cell? ⟨g, 1, none⟩ = some v1 := (blk_cell h 1).trans rfl
theorem zc42 {w : World} {g : Nat} {t : TypeId} {v0 v1 v2 v3 : Value} (h : w.heap[g]? = some (.cells #[v0, v1, v2, v3] t (0, 0))) : w.cell? ⟨g, 2, none⟩ = some v2 := (blk_cell h 2).trans rfl
theorem zc43 {w : World} {g : Nat} {t : TypeId} {v0 v1 v2 v3 : Value} (h : w.heap[g]? = some (.cells #[v0, v1, v2, v3] t (0, 0))) : w.cell? ⟨g, 3, none⟩ = some v3 := (blk_cell h 3).trans rfl
theorem zp40 {w : World} {g : Nat} {t : TypeId} {v0 v1 v2 v3 u : Value} (h : w.heap[g]? = some (.cells #[v0, v1, v2, v3] t (0, 0))) : (w.setCell ⟨g, 0, none⟩ u).heap[g]? = some (.cells #[u, v1, v2, v3] t (0, 0)) := blk_put h 0 _ rfl
theorem zp41 {w : World} {g : Nat} {t : TypeId} {v0 v1 v2 v3 u : Value} (h : w.heap[g]? = some (.cells #[v0, v1, v2, v3] t (0, 0))) : (w.setCell ⟨g, 1, none⟩ u).heap[g]? = some (.cells #[v0, u, v2, v3] t (0, 0)) := blk_put h 1 _ rfl
theorem zp42 {w : World} {g : Nat} {t : TypeId} {v0 v1 v2 v3 u : Value} (h : w.heap[g]? = some (.cells #[v0, v1, v2, v3] t (0, 0))) : (w.setCell ⟨g, 2, none⟩ u).heap[g]? = some (.cells #[v0, v1, u, v3] t (0, 0)) := blk_put h 2 _ rfl
theorem zp43 {w : World} {g : Nat} {t : TypeId} {v0 v1 v2 v3 u : Value} (h : w.heap[g]? = some (.cells #[v0, v1, v2, v3] t (0, 0))) : (w.setCell ⟨g, 3, none⟩ u).heap[g]? = some (.cells #[v0, v1, v2, u] t (0, 0)) := blk_put h 3 _ rfl
theorem zE {P : Program} {ops : Array Oper} {rest : List Oper} {o : Oper} {a : Act} {Q : Exit → Act → World → Prop} {W : World} (cs : Array Value) (t : TypeId) (h : ∀ g, g = W.heap.size → ∀ w1, w1.heap[g]? = some (.cells cs t (0, 0)) → Below W.heap.size W w1 → wpList P ops Q rest (a.put o.dst (.pointer (some ⟨g, 0, none⟩))) w1) (hgd : o.guard = none := by exact rfl) (hrun : (execOp a.eval o).run P W = .ok (.value (.pointer (some ⟨W.heap.size, 0, none⟩))) (W.alloc (.cells cs t (0, 0))) := by (go_simp; done)) : wpList P ops Q (o :: rest) a W := Kd.event_run hgd hrun (h _ rfl _ (blk_new W _) (below_alloc (Below.refl _ _) _))
theorem zX {P : Program} {ops : Array Oper} {rest : List Oper} {o : Oper} {a : Act} {Q : Exit → Act → World → Prop} {W : World} (N : Option Tmp) {f : FuncId} {fn : Func} {ars : Array Operand} {ts : Array TypeId} (hf : P.funcs[f]? = some fn) (args : Array Value) (h : Calls P f args W fun e w' => ∃ v, e = .returned v ∧ wpList P ops Q rest (a.put N v) w') (hd : o.dst = N := by exact rfl) (hg : o.guard = none := by exact rfl) (hname : (fn.name == "runtime.NumGoroutine") = false := by kernel_rfl) (hb : fn.body.isSome = true := by exact rfl) (hop : o.op = .call { callee := .value (.func f), args := ars, argTypes := ts } := by exact rfl) (hargs : ars.map a.eval = args := by ((try simp only [List.map_toArray, List.map_cons, List.map_nil]); rfl)) : wpList P ops Q (o :: rest) a W := goesL_ N hd hg hf hname hb args hop hargs h
end Go.Proofs.Ytcfoebkbahpnaaa
namespace Go.Proofs.Ytcfoebkbahpnaaa.K
open Go.RowKit Go.Proofs.YtcfoebkbahpnaaaW.PrintWords Go.Proofs.YtcfoebkbahpnaaaW.PrintLast Go.Proofs.YtcfoebkbahpnaaaW.PrintMore
attribute [local go_sem] max2_int min2_int max_two min_two max_three min_three max_four min_four
set_option linter.unusedVariables false
set_option maxHeartbeats 8000000
set_option maxRecDepth 100000
set_option linter.unusedSimpArgs false
theorem info9:(Try.prog.info? 9).map (fun i=>(i.zero,i.size,i.bytes))=some (some (.string ⟨#[]⟩),1,16):=by kernel_rfl
-- the values' own types
structure S50 where
  f0 : Int
  f1 : ByteArray
  f2 : ByteArray
  f3 : ByteArray
def z50 : S50 := ⟨(0 : Int), (⟨#[]⟩ : ByteArray), (⟨#[]⟩ : ByteArray), (⟨#[]⟩ : ByteArray)⟩
def k50 : Kd S50 := Kd.iso (Kd.pair (Kd.int .i64) (Kd.pair Kd.string (Kd.pair Kd.string Kd.string))) (fun x : S50 => (x.f0, x.f1, x.f2, x.f3))
theorem k50_heap:Kd.Heap k50:=Kd.heap_iso _ (Kd.heap_pair (Kd.heap_int .i64) (Kd.heap_pair Kd.heap_string (Kd.heap_pair Kd.heap_string Kd.heap_string)))
theorem k50_open {w:World} {x:S50} {cs:List Value} (h:k50.K w x cs):cs= [.int .i64 x.f0,.string x.f1,.string x.f2,.string x.f3]:=by
 obtain⟨_,_,rfl,rfl,⟨_,_,rfl,rfl,⟨_,_,rfl,rfl,rfl⟩⟩⟩:=h;exact rfl
theorem k50_mk (w:World) (x:S50):k50.K w x [.int .i64 x.f0,.string x.f1,.string x.f2,.string x.f3]:=⟨[.int .i64 x.f0],[.string x.f1,.string x.f2,.string x.f3],rfl,rfl,⟨[.string x.f1],[.string x.f2,.string x.f3],rfl,rfl,⟨[.string x.f2],[.string x.f3],rfl,rfl,rfl⟩⟩⟩
theorem k50_mkM (w:World) (base:Nat) (ok:Nat→Prop) (x:S50):k50.M w base ok x [.int .i64 x.f0,.string x.f1,.string x.f2,.string x.f3]:=⟨[.int .i64 x.f0],[.string x.f1,.string x.f2,.string x.f3],rfl,rfl,⟨[.string x.f1],[.string x.f2,.string x.f3],rfl,rfl,⟨[.string x.f2],[.string x.f3],rfl,rfl,rfl⟩⟩⟩
def rd_T50 (xs : List S50) (i : Int) : S50 := xs.getD i.toNat z50
theorem at_T50 {w:World} {A:Option Addr} {n:Nat} {xs:List S50} (h:Kd.C k50 w A n xs) (i:Int) (h0:0≤i) (h1:i<n): ∃ ad,A=some ad∧w.cell? (ad.add (i.toNat*4))=some (.int .i64 (rd_T50 xs i).f0)∧w.cell? ⟨(ad.add (i.toNat*4)).block,(ad.add (i.toNat*4)).off+1,none⟩=some (.string (rd_T50 xs i).f1)∧w.cell? ⟨(ad.add (i.toNat*4)).block,(ad.add (i.toNat*4)).off+2,none⟩=some (.string (rd_T50 xs i).f2)∧w.cell? ⟨(ad.add (i.toNat*4)).block,(ad.add (i.toNat*4)).off+3,none⟩=some (.string (rd_T50 xs i).f3):=by
 obtain⟨ad,c,e,_,hK,hc0⟩:=Kd.C_get h z50 i h0 h1;have hc: ∀ j u,c[j]? =some u→w.cell? (ad.add (i.toNat*4+j))=some u:=hc0;obtain rfl:=k50_open hK;exact⟨ad,e,hc 0 _ rfl,by rw[← add_field _ _ 1 (by omega)];exact hc 1 _ rfl,by rw[← add_field _ _ 2 (by omega)];exact hc 2 _ rfl,by rw[← add_field _ _ 3 (by omega)];exact hc 3 _ rfl⟩
structure S53 where
  f0 : S50
  f1 : S50
  f2 : S50
def z53 : S53 := ⟨z50, z50, z50⟩
def k53 : Kd S53 := Kd.iso (Kd.pair k50 (Kd.pair k50 k50)) (fun x : S53 => (x.f0, x.f1, x.f2))
theorem k53_heap:Kd.Heap k53:=Kd.heap_iso _ (Kd.heap_pair k50_heap (Kd.heap_pair k50_heap k50_heap))
theorem k53_open {w:World} {x:S53} {cs:List Value} (h:k53.K w x cs):cs= [.int .i64 x.f0.f0,.string x.f0.f1,.string x.f0.f2,.string x.f0.f3,.int .i64 x.f1.f0,.string x.f1.f1,.string x.f1.f2,.string x.f1.f3,.int .i64 x.f2.f0,.string x.f2.f1,.string x.f2.f2,.string x.f2.f3]:=by
 obtain⟨_,_,rfl,s0,⟨_,_,rfl,s4,s8⟩⟩:=h;obtain rfl:=k50_open s0;obtain rfl:=k50_open s4;obtain rfl:=k50_open s8;exact rfl
theorem k53_mk (w:World) (x:S53):k53.K w x [.int .i64 x.f0.f0,.string x.f0.f1,.string x.f0.f2,.string x.f0.f3,.int .i64 x.f1.f0,.string x.f1.f1,.string x.f1.f2,.string x.f1.f3,.int .i64 x.f2.f0,.string x.f2.f1,.string x.f2.f2,.string x.f2.f3]:=⟨[.int .i64 x.f0.f0,.string x.f0.f1,.string x.f0.f2,.string x.f0.f3],[.int .i64 x.f1.f0,.string x.f1.f1,.string x.f1.f2,.string x.f1.f3,.int .i64 x.f2.f0,.string x.f2.f1,.string x.f2.f2,.string x.f2.f3],rfl,(k50_mk w x.f0),⟨[.int .i64 x.f1.f0,.string x.f1.f1,.string x.f1.f2,.string x.f1.f3],[.int .i64 x.f2.f0,.string x.f2.f1,.string x.f2.f2,.string x.f2.f3],rfl,(k50_mk w x.f1),(k50_mk w x.f2)⟩⟩
theorem k53_mkM (w:World) (base:Nat) (ok:Nat→Prop) (x:S53):k53.M w base ok x [.int .i64 x.f0.f0,.string x.f0.f1,.string x.f0.f2,.string x.f0.f3,.int .i64 x.f1.f0,.string x.f1.f1,.string x.f1.f2,.string x.f1.f3,.int .i64 x.f2.f0,.string x.f2.f1,.string x.f2.f2,.string x.f2.f3]:=⟨[.int .i64 x.f0.f0,.string x.f0.f1,.string x.f0.f2,.string x.f0.f3],[.int .i64 x.f1.f0,.string x.f1.f1,.string x.f1.f2,.string x.f1.f3,.int .i64 x.f2.f0,.string x.f2.f1,.string x.f2.f2,.string x.f2.f3],rfl,(k50_mkM w base ok x.f0),⟨[.int .i64 x.f1.f0,.string x.f1.f1,.string x.f1.f2,.string x.f1.f3],[.int .i64 x.f2.f0,.string x.f2.f1,.string x.f2.f2,.string x.f2.f3],rfl,(k50_mkM w base ok x.f1),(k50_mkM w base ok x.f2)⟩⟩
def rd_T53 (xs : List S53) (i : Int) : S53 := xs.getD i.toNat z53
theorem at_T53 {w:World} {A:Option Addr} {n:Nat} {xs:List S53} (h:Kd.C k53 w A n xs) (i:Int) (h0:0≤i) (h1:i<n): ∃ ad,A=some ad∧w.cell? (ad.add (i.toNat*12))=some (.int .i64 (rd_T53 xs i).f0.f0)∧w.cell? ⟨(ad.add (i.toNat*12)).block,(ad.add (i.toNat*12)).off+1,none⟩=some (.string (rd_T53 xs i).f0.f1)∧w.cell? ⟨(ad.add (i.toNat*12)).block,(ad.add (i.toNat*12)).off+2,none⟩=some (.string (rd_T53 xs i).f0.f2)∧w.cell? ⟨(ad.add (i.toNat*12)).block,(ad.add (i.toNat*12)).off+3,none⟩=some (.string (rd_T53 xs i).f0.f3)∧w.cell? ⟨(ad.add (i.toNat*12)).block,(ad.add (i.toNat*12)).off+4,none⟩=some (.int .i64 (rd_T53 xs i).f1.f0)∧w.cell? ⟨(ad.add (i.toNat*12)).block,(ad.add (i.toNat*12)).off+5,none⟩=some (.string (rd_T53 xs i).f1.f1)∧w.cell? ⟨(ad.add (i.toNat*12)).block,(ad.add (i.toNat*12)).off+6,none⟩=some (.string (rd_T53 xs i).f1.f2)∧w.cell? ⟨(ad.add (i.toNat*12)).block,(ad.add (i.toNat*12)).off+7,none⟩=some (.string (rd_T53 xs i).f1.f3)∧w.cell? ⟨(ad.add (i.toNat*12)).block,(ad.add (i.toNat*12)).off+8,none⟩=some (.int .i64 (rd_T53 xs i).f2.f0)∧w.cell? ⟨(ad.add (i.toNat*12)).block,(ad.add (i.toNat*12)).off+9,none⟩=some (.string (rd_T53 xs i).f2.f1)∧w.cell? ⟨(ad.add (i.toNat*12)).block,(ad.add (i.toNat*12)).off+10,none⟩=some (.string (rd_T53 xs i).f2.f2)∧w.cell? ⟨(ad.add (i.toNat*12)).block,(ad.add (i.toNat*12)).off+11,none⟩=some (.string (rd_T53 xs i).f2.f3):=by
 obtain⟨ad,c,e,_,hK,hc0⟩:=Kd.C_get h z53 i h0 h1;have hc: ∀ j u,c[j]? =some u→w.cell? (ad.add (i.toNat*12+j))=some u:=hc0;obtain rfl:=k53_open hK;exact⟨ad,e,hc 0 _ rfl,by rw[← add_field _ _ 1 (by omega)];exact hc 1 _ rfl,by rw[← add_field _ _ 2 (by omega)];exact hc 2 _ rfl,by rw[← add_field _ _ 3 (by omega)];exact hc 3 _ rfl,by rw[← add_field _ _ 4 (by omega)];exact hc 4 _ rfl,by rw[← add_field _ _ 5 (by omega)];exact hc 5 _ rfl,by rw[← add_field _ _ 6 (by omega)];exact hc 6 _ rfl,by rw[← add_field _ _ 7 (by omega)];exact hc 7 _ rfl,by rw[← add_field _ _ 8 (by omega)];exact hc 8 _ rfl,by rw[← add_field _ _ 9 (by omega)];exact hc 9 _ rfl,by rw[← add_field _ _ 10 (by omega)];exact hc 10 _ rfl,by rw[← add_field _ _ 11 (by omega)];exact hc 11 _ rfl⟩
def rd_L6 (xs : List (List S50)) (i : Int) : (List S50) := xs.getD i.toNat ([] : List S50)
theorem at_L6 {w:World} {A:Option Addr} {n:Nat} {xs:List (List S50)} (h:Kd.C (Kd.slice 50 k50) w A n xs) (i:Int) (h0:0≤i) (h1:i<n): ∃ ad A0 c0,A=some ad∧w.cell? (ad.add i.toNat)=some (.slice A0 (rd_L6 xs i).length c0)∧(rd_L6 xs i).length≤c0∧k50.C w A0 (rd_L6 xs i).length (rd_L6 xs i):=by
 obtain⟨ad,c,e,_,hK,hc0⟩:=Kd.C_get h ([]:List S50) i h0 h1;have hc: ∀ j u,c[j]? =some u→w.cell? (ad.add (i.toNat*1+j))=some u:=hc0;obtain⟨A0,c0,rfl,l0,g0⟩:=hK;exact⟨ad,A0,c0,e,by have hq:=hc 0 _ rfl;rwa[Nat.mul_one,Nat.add_zero]at hq,l0,g0⟩
structure S42 where
  f0 : (List ByteArray)
  f1 : (List (List S50))
def z42 : S42 := ⟨([] : List ByteArray), ([] : List (List S50))⟩
def k42 : Kd S42 := Kd.iso (Kd.pair (Kd.slice 9 Kd.string) (Kd.slice 101 (Kd.slice 50 k50))) (fun x : S42 => (x.f0, x.f1))
theorem k42_heap:Kd.Heap k42:=Kd.heap_iso _ (Kd.heap_pair (Kd.heap_slice 9 Kd.heap_string) (Kd.heap_slice 101 (Kd.heap_slice 50 k50_heap)))
theorem k42_open {w:World} {x:S42} {cs:List Value} (h:k42.K w x cs): ∃ A0 c0 A1 c1,cs= [.slice A0 x.f0.length c0,.slice A1 x.f1.length c1]∧x.f0.length≤c0∧Kd.string.C w A0 x.f0.length x.f0∧x.f1.length≤c1∧(Kd.slice 50 k50).C w A1 x.f1.length x.f1:=by
 obtain⟨_,_,rfl,⟨A0,c0,rfl,l0,g0⟩,⟨A1,c1,rfl,l1,g1⟩⟩:=h;exact⟨A0,c0,A1,c1,rfl,l0,g0,l1,g1⟩
theorem k42_mk (w:World) (x:S42) {A0:Option Addr} {c0:Nat} (l0:x.f0.length≤c0) (g0:Kd.string.C w A0 x.f0.length x.f0) {A1:Option Addr} {c1:Nat} (l1:x.f1.length≤c1) (g1:(Kd.slice 50 k50).C w A1 x.f1.length x.f1):k42.K w x [.slice A0 x.f0.length c0,.slice A1 x.f1.length c1]:=⟨[.slice A0 x.f0.length c0],[.slice A1 x.f1.length c1],rfl,⟨A0,c0,rfl,l0,g0⟩,⟨A1,c1,rfl,l1,g1⟩⟩
structure S112 where
  f0 : Int
  f1 : S50
  f2 : ByteArray
  f3 : Int
def z112 : S112 := ⟨(0 : Int), z50, (⟨#[]⟩ : ByteArray), (0 : Int)⟩
def k112 : Kd S112 := Kd.iso (Kd.pair (Kd.int .i64) (Kd.pair k50 (Kd.pair Kd.string (Kd.int .i64)))) (fun x : S112 => (x.f0, x.f1, x.f2, x.f3))
theorem k112_heap:Kd.Heap k112:=Kd.heap_iso _ (Kd.heap_pair (Kd.heap_int .i64) (Kd.heap_pair k50_heap (Kd.heap_pair Kd.heap_string (Kd.heap_int .i64))))
theorem k112_open {w:World} {x:S112} {cs:List Value} (h:k112.K w x cs):cs= [.int .i64 x.f0,.int .i64 x.f1.f0,.string x.f1.f1,.string x.f1.f2,.string x.f1.f3,.string x.f2,.int .i64 x.f3]:=by
 obtain⟨_,_,rfl,rfl,⟨_,_,rfl,s1,⟨_,_,rfl,rfl,rfl⟩⟩⟩:=h;obtain rfl:=k50_open s1;exact rfl
theorem k112_mk (w:World) (x:S112):k112.K w x [.int .i64 x.f0,.int .i64 x.f1.f0,.string x.f1.f1,.string x.f1.f2,.string x.f1.f3,.string x.f2,.int .i64 x.f3]:=⟨[.int .i64 x.f0],[.int .i64 x.f1.f0,.string x.f1.f1,.string x.f1.f2,.string x.f1.f3,.string x.f2,.int .i64 x.f3],rfl,rfl,⟨[.int .i64 x.f1.f0,.string x.f1.f1,.string x.f1.f2,.string x.f1.f3],[.string x.f2,.int .i64 x.f3],rfl,(k50_mk w x.f1),⟨[.string x.f2],[.int .i64 x.f3],rfl,rfl,rfl⟩⟩⟩
def rd_T112 (xs : List S112) (i : Int) : S112 := xs.getD i.toNat z112
theorem at_T112 {w:World} {A:Option Addr} {n:Nat} {xs:List S112} (h:Kd.C k112 w A n xs) (i:Int) (h0:0≤i) (h1:i<n): ∃ ad,A=some ad∧w.cell? (ad.add (i.toNat*7))=some (.int .i64 (rd_T112 xs i).f0)∧w.cell? ⟨(ad.add (i.toNat*7)).block,(ad.add (i.toNat*7)).off+1,none⟩=some (.int .i64 (rd_T112 xs i).f1.f0)∧w.cell? ⟨(ad.add (i.toNat*7)).block,(ad.add (i.toNat*7)).off+2,none⟩=some (.string (rd_T112 xs i).f1.f1)∧w.cell? ⟨(ad.add (i.toNat*7)).block,(ad.add (i.toNat*7)).off+3,none⟩=some (.string (rd_T112 xs i).f1.f2)∧w.cell? ⟨(ad.add (i.toNat*7)).block,(ad.add (i.toNat*7)).off+4,none⟩=some (.string (rd_T112 xs i).f1.f3)∧w.cell? ⟨(ad.add (i.toNat*7)).block,(ad.add (i.toNat*7)).off+5,none⟩=some (.string (rd_T112 xs i).f2)∧w.cell? ⟨(ad.add (i.toNat*7)).block,(ad.add (i.toNat*7)).off+6,none⟩=some (.int .i64 (rd_T112 xs i).f3):=by
 obtain⟨ad,c,e,_,hK,hc0⟩:=Kd.C_get h z112 i h0 h1;have hc: ∀ j u,c[j]? =some u→w.cell? (ad.add (i.toNat*7+j))=some u:=hc0;obtain rfl:=k112_open hK;exact⟨ad,e,hc 0 _ rfl,by rw[← add_field _ _ 1 (by omega)];exact hc 1 _ rfl,by rw[← add_field _ _ 2 (by omega)];exact hc 2 _ rfl,by rw[← add_field _ _ 3 (by omega)];exact hc 3 _ rfl,by rw[← add_field _ _ 4 (by omega)];exact hc 4 _ rfl,by rw[← add_field _ _ 5 (by omega)];exact hc 5 _ rfl,by rw[← add_field _ _ 6 (by omega)];exact hc 6 _ rfl⟩
structure S45 where
  f0 : Int
  f1 : (List S53)
  f2 : S42
  f3 : (List S112)
  f4 : ByteArray
  f5 : Bool
def z45 : S45 := ⟨(0 : Int), ([] : List S53), z42, ([] : List S112), (⟨#[]⟩ : ByteArray), false⟩
def k45 : Kd S45 := Kd.iso (Kd.pair (Kd.int .i64) (Kd.pair (Kd.slice 53 k53) (Kd.pair k42 (Kd.pair (Kd.slice 112 k112) (Kd.pair Kd.string Kd.bool))))) (fun x : S45 => (x.f0, x.f1, x.f2, x.f3, x.f4, x.f5))
theorem k45_heap:Kd.Heap k45:=Kd.heap_iso _ (Kd.heap_pair (Kd.heap_int .i64) (Kd.heap_pair (Kd.heap_slice 53 k53_heap) (Kd.heap_pair k42_heap (Kd.heap_pair (Kd.heap_slice 112 k112_heap) (Kd.heap_pair Kd.heap_string Kd.heap_bool)))))
theorem k45_open {w:World} {x:S45} {cs:List Value} (h:k45.K w x cs): ∃ A1 c1 A2 c2 A3 c3 A4 c4,cs= [.int .i64 x.f0,.slice A1 x.f1.length c1,.slice A2 x.f2.f0.length c2,.slice A3 x.f2.f1.length c3,.slice A4 x.f3.length c4,.string x.f4,.bool x.f5]∧x.f1.length≤c1∧k53.C w A1 x.f1.length x.f1∧x.f2.f0.length≤c2∧Kd.string.C w A2 x.f2.f0.length x.f2.f0∧x.f2.f1.length≤c3∧(Kd.slice 50 k50).C w A3 x.f2.f1.length x.f2.f1∧x.f3.length≤c4∧k112.C w A4 x.f3.length x.f3:=by
 obtain⟨_,_,rfl,rfl,⟨_,_,rfl,⟨A1,c1,rfl,l1,g1⟩,⟨_,_,rfl,s2,⟨_,_,rfl,⟨A4,c4,rfl,l4,g4⟩,⟨_,_,rfl,rfl,rfl⟩⟩⟩⟩⟩:=h;obtain⟨A2,c2,A3,c3,rfl,l2,g2,l3,g3⟩:=k42_open s2;exact⟨A1,c1,A2,c2,A3,c3,A4,c4,rfl,l1,g1,l2,g2,l3,g3,l4,g4⟩
theorem k45_mk (w:World) (x:S45) {A1:Option Addr} {c1:Nat} (l1:x.f1.length≤c1) (g1:k53.C w A1 x.f1.length x.f1) {A2:Option Addr} {c2:Nat} (l2:x.f2.f0.length≤c2) (g2:Kd.string.C w A2 x.f2.f0.length x.f2.f0) {A3:Option Addr} {c3:Nat} (l3:x.f2.f1.length≤c3) (g3:(Kd.slice 50 k50).C w A3 x.f2.f1.length x.f2.f1) {A4:Option Addr} {c4:Nat} (l4:x.f3.length≤c4) (g4:k112.C w A4 x.f3.length x.f3):k45.K w x [.int .i64 x.f0,.slice A1 x.f1.length c1,.slice A2 x.f2.f0.length c2,.slice A3 x.f2.f1.length c3,.slice A4 x.f3.length c4,.string x.f4,.bool x.f5]:=⟨[.int .i64 x.f0],[.slice A1 x.f1.length c1,.slice A2 x.f2.f0.length c2,.slice A3 x.f2.f1.length c3,.slice A4 x.f3.length c4,.string x.f4,.bool x.f5],rfl,rfl,⟨[.slice A1 x.f1.length c1],[.slice A2 x.f2.f0.length c2,.slice A3 x.f2.f1.length c3,.slice A4 x.f3.length c4,.string x.f4,.bool x.f5],rfl,⟨A1,c1,rfl,l1,g1⟩,⟨[.slice A2 x.f2.f0.length c2,.slice A3 x.f2.f1.length c3],[.slice A4 x.f3.length c4,.string x.f4,.bool x.f5],rfl,(k42_mk w x.f2 l2 g2 l3 g3),⟨[.slice A4 x.f3.length c4],[.string x.f4,.bool x.f5],rfl,⟨A4,c4,rfl,l4,g4⟩,⟨[.string x.f4],[.bool x.f5],rfl,rfl,rfl⟩⟩⟩⟩⟩
theorem k45_openF {W:World} {ok:Nat→Prop} {x:S45} {cs:List Value} (h:Kd.FK k45 W ok x cs): ∃ A1 c1 A2 c2 A3 c3 A4 c4,cs= [.int .i64 x.f0,.slice A1 x.f1.length c1,.slice A2 x.f2.f0.length c2,.slice A3 x.f2.f1.length c3,.slice A4 x.f3.length c4,.string x.f4,.bool x.f5]∧x.f1.length≤c1∧Kd.F k53 W ok A1 x.f1.length x.f1∧x.f2.f0.length≤c2∧Kd.F Kd.string W ok A2 x.f2.f0.length x.f2.f0∧x.f2.f1.length≤c3∧Kd.F (Kd.slice 50 k50) W ok A3 x.f2.f1.length x.f2.f1∧x.f3.length≤c4∧Kd.F k112 W ok A4 x.f3.length x.f3:=by
 obtain⟨A1,c1,A2,c2,A3,c3,A4,c4,rfl,l1,_,l2,_,l3,_,l4,_⟩:=k45_open (Kd.FK_now h);exact⟨A1,c1,A2,c2,A3,c3,A4,c4,rfl,l1,(fun W' hW=>by obtain⟨A1_,c1_,A2_,c2_,A3_,c3_,A4_,c4_,he,l1_,g1_,l2_,g2_,l3_,g3_,l4_,g4_⟩:=k45_open (h W' hW);injection (Option.some.inj (show some (Value.slice A1 x.f1.length c1)=some (Value.slice A1_ x.f1.length c1_)from congrArg (fun l=>l[1]?) he))with ha_ _ _;rw[ha_];exact g1_),l2,(fun W' hW=>by obtain⟨A1_,c1_,A2_,c2_,A3_,c3_,A4_,c4_,he,l1_,g1_,l2_,g2_,l3_,g3_,l4_,g4_⟩:=k45_open (h W' hW);injection (Option.some.inj (show some (Value.slice A2 x.f2.f0.length c2)=some (Value.slice A2_ x.f2.f0.length c2_)from congrArg (fun l=>l[2]?) he))with ha_ _ _;rw[ha_];exact g2_),l3,(fun W' hW=>by obtain⟨A1_,c1_,A2_,c2_,A3_,c3_,A4_,c4_,he,l1_,g1_,l2_,g2_,l3_,g3_,l4_,g4_⟩:=k45_open (h W' hW);injection (Option.some.inj (show some (Value.slice A3 x.f2.f1.length c3)=some (Value.slice A3_ x.f2.f1.length c3_)from congrArg (fun l=>l[3]?) he))with ha_ _ _;rw[ha_];exact g3_),l4,(fun W' hW=>by obtain⟨A1_,c1_,A2_,c2_,A3_,c3_,A4_,c4_,he,l1_,g1_,l2_,g2_,l3_,g3_,l4_,g4_⟩:=k45_open (h W' hW);injection (Option.some.inj (show some (Value.slice A4 x.f3.length c4)=some (Value.slice A4_ x.f3.length c4_)from congrArg (fun l=>l[4]?) he))with ha_ _ _;rw[ha_];exact g4_)⟩
theorem k45_mkF (W:World) (ok:Nat→Prop) (x:S45) {A1:Option Addr} {c1:Nat} (l1:x.f1.length≤c1) (g1:Kd.F k53 W ok A1 x.f1.length x.f1) {A2:Option Addr} {c2:Nat} (l2:x.f2.f0.length≤c2) (g2:Kd.F Kd.string W ok A2 x.f2.f0.length x.f2.f0) {A3:Option Addr} {c3:Nat} (l3:x.f2.f1.length≤c3) (g3:Kd.F (Kd.slice 50 k50) W ok A3 x.f2.f1.length x.f2.f1) {A4:Option Addr} {c4:Nat} (l4:x.f3.length≤c4) (g4:Kd.F k112 W ok A4 x.f3.length x.f3):Kd.FK k45 W ok x [.int .i64 x.f0,.slice A1 x.f1.length c1,.slice A2 x.f2.f0.length c2,.slice A3 x.f2.f1.length c3,.slice A4 x.f3.length c4,.string x.f4,.bool x.f5]:=fun W2 hW=>k45_mk W2 x l1 (g1 W2 hW) l2 (g2 W2 hW) l3 (g3 W2 hW) l4 (g4 W2 hW)
def rd_T45 (xs : List S45) (i : Int) : S45 := xs.getD i.toNat z45
theorem at_T45 {w:World} {A:Option Addr} {n:Nat} {xs:List S45} (h:Kd.C k45 w A n xs) (i:Int) (h0:0≤i) (h1:i<n): ∃ ad A1 c1 A2 c2 A3 c3 A4 c4,A=some ad∧w.cell? (ad.add (i.toNat*7))=some (.int .i64 (rd_T45 xs i).f0)∧w.cell? ⟨(ad.add (i.toNat*7)).block,(ad.add (i.toNat*7)).off+1,none⟩=some (.slice A1 (rd_T45 xs i).f1.length c1)∧w.cell? ⟨(ad.add (i.toNat*7)).block,(ad.add (i.toNat*7)).off+2,none⟩=some (.slice A2 (rd_T45 xs i).f2.f0.length c2)∧w.cell? ⟨(ad.add (i.toNat*7)).block,(ad.add (i.toNat*7)).off+3,none⟩=some (.slice A3 (rd_T45 xs i).f2.f1.length c3)∧w.cell? ⟨(ad.add (i.toNat*7)).block,(ad.add (i.toNat*7)).off+4,none⟩=some (.slice A4 (rd_T45 xs i).f3.length c4)∧w.cell? ⟨(ad.add (i.toNat*7)).block,(ad.add (i.toNat*7)).off+5,none⟩=some (.string (rd_T45 xs i).f4)∧w.cell? ⟨(ad.add (i.toNat*7)).block,(ad.add (i.toNat*7)).off+6,none⟩=some (.bool (rd_T45 xs i).f5)∧(rd_T45 xs i).f1.length≤c1∧k53.C w A1 (rd_T45 xs i).f1.length (rd_T45 xs i).f1∧(rd_T45 xs i).f2.f0.length≤c2∧Kd.string.C w A2 (rd_T45 xs i).f2.f0.length (rd_T45 xs i).f2.f0∧(rd_T45 xs i).f2.f1.length≤c3∧(Kd.slice 50 k50).C w A3 (rd_T45 xs i).f2.f1.length (rd_T45 xs i).f2.f1∧(rd_T45 xs i).f3.length≤c4∧k112.C w A4 (rd_T45 xs i).f3.length (rd_T45 xs i).f3:=by
 obtain⟨ad,c,e,_,hK,hc0⟩:=Kd.C_get h z45 i h0 h1;have hc: ∀ j u,c[j]? =some u→w.cell? (ad.add (i.toNat*7+j))=some u:=hc0;obtain⟨A1,c1,A2,c2,A3,c3,A4,c4,rfl,l1,g1,l2,g2,l3,g3,l4,g4⟩:=k45_open hK;exact⟨ad,A1,c1,A2,c2,A3,c3,A4,c4,e,hc 0 _ rfl,by rw[← add_field _ _ 1 (by omega)];exact hc 1 _ rfl,by rw[← add_field _ _ 2 (by omega)];exact hc 2 _ rfl,by rw[← add_field _ _ 3 (by omega)];exact hc 3 _ rfl,by rw[← add_field _ _ 4 (by omega)];exact hc 4 _ rfl,by rw[← add_field _ _ 5 (by omega)];exact hc 5 _ rfl,by rw[← add_field _ _ 6 (by omega)];exact hc 6 _ rfl,l1,g1,l2,g2,l3,g3,l4,g4⟩
structure S38 where
  f0 : Int
  f1 : (List S53)
  f2 : Int
  f3 : Bool
  f4 : (List S45)
def z38 : S38 := ⟨(0 : Int), ([] : List S53), (0 : Int), false, ([] : List S45)⟩
def k38 : Kd S38 := Kd.iso (Kd.pair (Kd.int .i64) (Kd.pair (Kd.slice 53 k53) (Kd.pair (Kd.int .i64) (Kd.pair Kd.bool (Kd.slice 45 k45))))) (fun x : S38 => (x.f0, x.f1, x.f2, x.f3, x.f4))
theorem k38_open {w:World} {x:S38} {cs:List Value} (h:k38.K w x cs): ∃ A1 c1 A4 c4,cs= [.int .i64 x.f0,.slice A1 x.f1.length c1,.int .i64 x.f2,.bool x.f3,.slice A4 x.f4.length c4]∧x.f1.length≤c1∧k53.C w A1 x.f1.length x.f1∧x.f4.length≤c4∧k45.C w A4 x.f4.length x.f4:=by
 obtain⟨_,_,rfl,rfl,⟨_,_,rfl,⟨A1,c1,rfl,l1,g1⟩,⟨_,_,rfl,rfl,⟨_,_,rfl,rfl,⟨A4,c4,rfl,l4,g4⟩⟩⟩⟩⟩:=h;exact⟨A1,c1,A4,c4,rfl,l1,g1,l4,g4⟩
theorem k38_mk (w:World) (x:S38) {A1:Option Addr} {c1:Nat} (l1:x.f1.length≤c1) (g1:k53.C w A1 x.f1.length x.f1) {A4:Option Addr} {c4:Nat} (l4:x.f4.length≤c4) (g4:k45.C w A4 x.f4.length x.f4):k38.K w x [.int .i64 x.f0,.slice A1 x.f1.length c1,.int .i64 x.f2,.bool x.f3,.slice A4 x.f4.length c4]:=⟨[.int .i64 x.f0],[.slice A1 x.f1.length c1,.int .i64 x.f2,.bool x.f3,.slice A4 x.f4.length c4],rfl,rfl,⟨[.slice A1 x.f1.length c1],[.int .i64 x.f2,.bool x.f3,.slice A4 x.f4.length c4],rfl,⟨A1,c1,rfl,l1,g1⟩,⟨[.int .i64 x.f2],[.bool x.f3,.slice A4 x.f4.length c4],rfl,rfl,⟨[.bool x.f3],[.slice A4 x.f4.length c4],rfl,rfl,⟨A4,c4,rfl,l4,g4⟩⟩⟩⟩⟩
theorem k38_openF {W:World} {ok:Nat→Prop} {x:S38} {cs:List Value} (h:Kd.FK k38 W ok x cs): ∃ A1 c1 A4 c4,cs= [.int .i64 x.f0,.slice A1 x.f1.length c1,.int .i64 x.f2,.bool x.f3,.slice A4 x.f4.length c4]∧x.f1.length≤c1∧Kd.F k53 W ok A1 x.f1.length x.f1∧x.f4.length≤c4∧Kd.F k45 W ok A4 x.f4.length x.f4:=by
 obtain⟨A1,c1,A4,c4,rfl,l1,_,l4,_⟩:=k38_open (Kd.FK_now h);exact⟨A1,c1,A4,c4,rfl,l1,(fun W' hW=>by obtain⟨A1_,c1_,A4_,c4_,he,l1_,g1_,l4_,g4_⟩:=k38_open (h W' hW);injection (Option.some.inj (show some (Value.slice A1 x.f1.length c1)=some (Value.slice A1_ x.f1.length c1_)from congrArg (fun l=>l[1]?) he))with ha_ _ _;rw[ha_];exact g1_),l4,(fun W' hW=>by obtain⟨A1_,c1_,A4_,c4_,he,l1_,g1_,l4_,g4_⟩:=k38_open (h W' hW);injection (Option.some.inj (show some (Value.slice A4 x.f4.length c4)=some (Value.slice A4_ x.f4.length c4_)from congrArg (fun l=>l[4]?) he))with ha_ _ _;rw[ha_];exact g4_)⟩
theorem k38_mkF (W:World) (ok:Nat→Prop) (x:S38) {A1:Option Addr} {c1:Nat} (l1:x.f1.length≤c1) (g1:Kd.F k53 W ok A1 x.f1.length x.f1) {A4:Option Addr} {c4:Nat} (l4:x.f4.length≤c4) (g4:Kd.F k45 W ok A4 x.f4.length x.f4):Kd.FK k38 W ok x [.int .i64 x.f0,.slice A1 x.f1.length c1,.int .i64 x.f2,.bool x.f3,.slice A4 x.f4.length c4]:=fun W2 hW=>k38_mk W2 x l1 (g1 W2 hW) l4 (g4 W2 hW)
def rd_T38 (xs : List S38) (i : Int) : S38 := xs.getD i.toNat z38
theorem at_T38 {w:World} {A:Option Addr} {n:Nat} {xs:List S38} (h:Kd.C k38 w A n xs) (i:Int) (h0:0≤i) (h1:i<n): ∃ ad A1 c1 A4 c4,A=some ad∧w.cell? (ad.add (i.toNat*5))=some (.int .i64 (rd_T38 xs i).f0)∧w.cell? ⟨(ad.add (i.toNat*5)).block,(ad.add (i.toNat*5)).off+1,none⟩=some (.slice A1 (rd_T38 xs i).f1.length c1)∧w.cell? ⟨(ad.add (i.toNat*5)).block,(ad.add (i.toNat*5)).off+2,none⟩=some (.int .i64 (rd_T38 xs i).f2)∧w.cell? ⟨(ad.add (i.toNat*5)).block,(ad.add (i.toNat*5)).off+3,none⟩=some (.bool (rd_T38 xs i).f3)∧w.cell? ⟨(ad.add (i.toNat*5)).block,(ad.add (i.toNat*5)).off+4,none⟩=some (.slice A4 (rd_T38 xs i).f4.length c4)∧(rd_T38 xs i).f1.length≤c1∧k53.C w A1 (rd_T38 xs i).f1.length (rd_T38 xs i).f1∧(rd_T38 xs i).f4.length≤c4∧k45.C w A4 (rd_T38 xs i).f4.length (rd_T38 xs i).f4:=by
 obtain⟨ad,c,e,_,hK,hc0⟩:=Kd.C_get h z38 i h0 h1;have hc: ∀ j u,c[j]? =some u→w.cell? (ad.add (i.toNat*5+j))=some u:=hc0;obtain⟨A1,c1,A4,c4,rfl,l1,g1,l4,g4⟩:=k38_open hK;exact⟨ad,A1,c1,A4,c4,e,hc 0 _ rfl,by rw[← add_field _ _ 1 (by omega)];exact hc 1 _ rfl,by rw[← add_field _ _ 2 (by omega)];exact hc 2 _ rfl,by rw[← add_field _ _ 3 (by omega)];exact hc 3 _ rfl,by rw[← add_field _ _ 4 (by omega)];exact hc 4 _ rfl,l1,g1,l4,g4⟩
end Go.Proofs.Ytcfoebkbahpnaaa.K
