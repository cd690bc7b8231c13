import Derived.Test.YtcfoebkbahpnaaaDSq
import Derived.Test.YtcfoebkbahpnaaaDWFoot
import Derived.Test.YtcfoebkbahpnaaaDWWords
import Derived.Laws.StructEq
import Derived.Test.YtcfoebkbahpnaaaDWLast
import Derived.Test.YtcfoebkbahpnaaaProg
import Derived.Maps.OwnIn
import Derived.Maps.OwnSet
import Derived.Maps.OwnOps
import Derived.Maps.RangeWalk
import Derived.Sort.MapsRangeIn
import Derived.StringKeys
-- PRINTED BY print.sh 35421559b90ae4d0a3588c463048766b98c2df88dd9212a6774a882060cdf62d: not written by this session
namespace Go.Proofs.YtcfoebkbahpnaaaW.PrintWords
open Go.RowKit
section
variable {w w' u : World} {m B g : Nat} {o : Obj} {row : Option Nat} {S : Nat → Prop} {a : Addr} {v : Value}
end
namespace Kd
section
variable {α : Type} {d : Kd α} {e base n m : Nat} {ok : Nat → Prop} {w w' : World} {v : Value} {A : Option Addr} {xs : List α}
end
end Kd
end Go.Proofs.YtcfoebkbahpnaaaW.PrintWords

-- PRINTED BY print.sh 35421559b90ae4d0a3588c463048766b98c2df88dd9212a6774a882060cdf62d: not written by this session
namespace Go.Proofs.YtcfoebkbahpnaaaW.PrintLast
def up (b : Nat → Bool) (i : Nat) : Nat → Bool := fun j => if j = i then true else b j
section
variable {P : Program} {ops : Array Oper} {Q : Exit → Act → World → Prop} {md : Region.Mode} {T : Bool × List (List Nat × List Nat)} {B : List Nat} {O : List Nat} {b : Nat → Bool} {i j n : Nat}
end
end Go.Proofs.YtcfoebkbahpnaaaW.PrintLast

-- PRINTED BY print.sh 35421559b90ae4d0a3588c463048766b98c2df88dd9212a6774a882060cdf62d: not written by this session
namespace Go.Proofs.YtcfoebkbahpnaaaW.PrintWords
open Go.RowKit
end Go.Proofs.YtcfoebkbahpnaaaW.PrintWords
namespace Go.Proofs.YtcfoebkbahpnaaaW.PrintLast
section
variable {ops : Array Oper} {a : Act} {o og : Oper} {g : Nat} {t : Tmp} {u : Bool}
end
end Go.Proofs.YtcfoebkbahpnaaaW.PrintLast

-- PRINTED BY print.sh 35421559b90ae4d0a3588c463048766b98c2df88dd9212a6774a882060cdf62d: not written by this session
namespace Go.Proofs.YtcfoebkbahpnaaaW.PrintLast
section
variable {P : Program} {ops : Array Oper} {Q : Exit → Act → World → Prop} {md : Region.Mode} {S : World → Prop} {ds : List Nat} {T : Bool × List (List Nat × List Nat)}
end
end Go.Proofs.YtcfoebkbahpnaaaW.PrintLast

-- PRINTED BY print.sh 35421559b90ae4d0a3588c463048766b98c2df88dd9212a6774a882060cdf62d: not written by this session
namespace Go.Proofs.YtcfoebkbahpnaaaW.PrintWords
open Go.RowKit
section
variable {P : Program} {ops : Array Oper} {rest : List Oper} {o : Oper} {a : Act} {Q : Exit → Act → World → Prop} {W : World}
theorem gate_guard (hw:Region.wanted o (yielded ops a.tmps)=true) (h:wpList P ops Q ({o with guard:=none}::rest) a W):wpList P ops Q (o::rest) a W:=by
 have h1:Region.wanted {o with guard:=none} (yielded ops a.tmps)=true:=rfl;unfold wpList at h ⊢;rw[if_pos h1]at h;rw[if_pos hw];exact h
end
end Go.Proofs.YtcfoebkbahpnaaaW.PrintWords

-- PRINTED BY print.sh 35421559b90ae4d0a3588c463048766b98c2df88dd9212a6774a882060cdf62d: not written by this session
namespace Go.Proofs.YtcfoebkbahpnaaaW.PrintWords
open Go.RowKit
namespace Kd
section
variable {α : Type} {d : Kd α} {e base n cap g : Nat} {ok ok' okp : Nat → Prop} {w w1 W : World} {v v1 : Value} {xs ys : List α}
end
section
variable {P : Program} {ops : Array Oper} {rest : List Oper} {o : Oper} {a : Act} {Q : Exit → Act → World → Prop} {Kc : Act → World → Prop} {α : Type}
end
end Kd
end Go.Proofs.YtcfoebkbahpnaaaW.PrintWords

-- PRINTED BY print.sh 35421559b90ae4d0a3588c463048766b98c2df88dd9212a6774a882060cdf62d: not written by this session
namespace Go.Proofs.YtcfoebkbahpnaaaW.PrintWords
open Go.RowKit
section
variable {P : Program} {d : Nat} {xs ys : Array Value} {f : Field} {fs : List Field} {a b : Value} {r s : Bool} {w : World}
theorem eqf_last (hn:(f.name== "_")=false) (ha:(part f.type xs f.offset).run P w= .ok a w) (hb:(part f.type ys f.offset).run P w= .ok b w) (he:(Op.equalIn d f.type a b).run P w= .ok r w):(Op.eqFields d xs ys [f]).run P w= .ok r w:=by
 have hn':f.name≠ "_" :=(by simpa using hn);simp only[Op.eqFields,if_pos hn',Sem.run_bind,ha,hb,he,Result.andThen_ok];cases r<;>simp
theorem eqf_cons (hn:(f.name== "_")=false) (ha:(part f.type xs f.offset).run P w= .ok a w) (hb:(part f.type ys f.offset).run P w= .ok b w) (he:(Op.equalIn d f.type a b).run P w= .ok r w) (hr:(Op.eqFields d xs ys fs).run P w= .ok s w):(Op.eqFields d xs ys (f::fs)).run P w= .ok (r && s) w:=by
 have hn':f.name≠ "_" :=(by simpa using hn);rw[Op.eqFields];simp only[if_pos hn',Sem.run_bind,ha,hb,he,Result.andThen_ok];cases r
 ·simp
 simpa using hr
theorem eqA_of {t:TypeId} {fs:Array Field} (hu:P.underlying t=some (.struct fs)) (hp:P.stoodInHeld t=false) (h:(Op.eqFields d xs ys fs.toList).run P w= .ok r w):(Op.equalIn (d+1) t (.agg xs) (.agg ys)).run P w= .ok r w:=by
 have hf:P.fieldsOf t=fs:=(by simp[Program.fieldsOf,hu]);rw[run_equalIn_struct (P:=P) w d t xs ys (by rw[hf];exact hu) hp,hf];exact h
end
end Go.Proofs.YtcfoebkbahpnaaaW.PrintWords

-- PRINTED BY print.sh 35421559b90ae4d0a3588c463048766b98c2df88dd9212a6774a882060cdf62d: not written by this session
-- PRINTED WORDS (module Derived/Print/More.lean): go-gate-2's additions: an AI agent of Go's test side, Tue Nov 17 2026; no person has read it. Lean checks it.
namespace Go.Proofs.YtcfoebkbahpnaaaW.PrintMore
open Go.RowKit Go.Proofs.YtcfoebkbahpnaaaW.PrintWords
namespace Kd
open Go.Proofs.YtcfoebkbahpnaaaW.PrintWords.Kd
end Kd
namespace Kd
open Go.Proofs.YtcfoebkbahpnaaaW.PrintWords.Kd
section
variable {α : Type} {d : Kd α} {e base g N : Nat} {ok : Nat → Prop} {W w1 : World} {u v : Value} {xs : List α}
end
end Kd
theorem max2_int (k k':IntKind) (x y:Int):Builtin.max2 (.int k x) (.int k' y)=pure (.int k (if x<y then y else x)):=by simp only[Builtin.max2,gt_iff_lt]
theorem min2_int (k k':IntKind) (x y:Int):Builtin.min2 (.int k x) (.int k' y)=pure (.int k (if y<x then y else x)):=by simp only[Builtin.min2]
theorem max_two (ats:Array TypeId) (ty:TypeId) (a b:Value):Builtin.max_ ats ty #[a,b]=(Builtin.max2 a b>>=fun s=>pure s):=by simp only[Builtin.max_,List.foldlM_cons,List.foldlM_nil]
theorem min_two (ats:Array TypeId) (ty:TypeId) (a b:Value):Builtin.min_ ats ty #[a,b]=(Builtin.min2 a b>>=fun s=>pure s):=by simp only[Builtin.min_,List.foldlM_cons,List.foldlM_nil]
theorem max_three (ats:Array TypeId) (ty:TypeId) (a b c:Value):Builtin.max_ ats ty #[a,b,c]=(Builtin.max2 a b>>=fun s=>Builtin.max2 s c>>=fun s=>pure s):=by simp only[Builtin.max_,List.foldlM_cons,List.foldlM_nil]
theorem min_three (ats:Array TypeId) (ty:TypeId) (a b c:Value):Builtin.min_ ats ty #[a,b,c]=(Builtin.min2 a b>>=fun s=>Builtin.min2 s c>>=fun s=>pure s):=by simp only[Builtin.min_,List.foldlM_cons,List.foldlM_nil]
theorem max_four (ats:Array TypeId) (ty:TypeId) (a b c d:Value):Builtin.max_ ats ty #[a,b,c,d]=(Builtin.max2 a b>>=fun s=>Builtin.max2 s c>>=fun s=>Builtin.max2 s d>>=fun s=>pure s):=by simp only[Builtin.max_,List.foldlM_cons,List.foldlM_nil]
theorem min_four (ats:Array TypeId) (ty:TypeId) (a b c d:Value):Builtin.min_ ats ty #[a,b,c,d]=(Builtin.min2 a b>>=fun s=>Builtin.min2 s c>>=fun s=>Builtin.min2 s d>>=fun s=>pure s):=by simp only[Builtin.min_,List.foldlM_cons,List.foldlM_nil]
end Go.Proofs.YtcfoebkbahpnaaaW.PrintMore
namespace Go.Proofs.YtcfoebkbahpnaaaW.PrintWords
open Go.RowKit
section
variable {P : Program} {ops : Array Oper} {rest : List Oper} {o : Oper} {a : Act} {Q : Exit → Act → World → Prop} {W : World}
theorem gate_callee {f:FuncId} {aq:Array Operand} {ts:Array TypeId} (_ho:o.op= .call {callee:= .value (.func f),args:=aq,argTypes:=ts}) (h:wpList P ops Q (o::rest) a W):wpList P ops Q (o::rest) a W:=h
theorem gate_builtin {b:Builtin} {xs:Array Operand} {ts:Array TypeId} (_ho:o.op= .call {callee:= .builtin b,args:=xs,argTypes:=ts}) (h:wpList P ops Q (o::rest) a W):wpList P ops Q (o::rest) a W:=h
end
theorem drewN_self (w:World) (n:Nat):w.drewN n=w.drewN n:=rfl
namespace Kd
section
variable {α : Type} {d : Kd α} {e base : Nat} {ok : Nat → Prop} {W w1 : World} {v : Value} {xs : List α}
end
section
variable {α : Type} {d : Kd α} {e base g n cap : Nat} {ok oki okp : Nat → Prop} {W : World} {xs : List α} {i : Int} {c : List Value}
end
section
variable {α : Type} {d : Kd α} {e base b b' g N : Nat} {ok ok1 : Nat → Prop} {W W2 w1 : World} {u v : Value} {xs ys : List α} {S : Nat → Prop}
theorem R_keptB (h:d.R e W base ok v xs) (hk:Kept W W2 S) (hne: ∀ k,ok k→¬ S k):d.R e W2 base (fun k=>ok k∧(¬ S k∧k<W.heap.size)) v xs:=
 R_kept (R_mono (R_bound h) (fun k hk=>⟨hk.1,hne k hk.1,hk.2.2.1⟩)) hk (fun _ hk=>hk.2.1)
end
end Kd
end Go.Proofs.YtcfoebkbahpnaaaW.PrintWords
namespace Go.Proofs.YtcfoebkbahpnaaaW.PrintWords
open Go.RowKit
namespace Kd
def V {α : Type} (d : Kd α) (_e : Nat) (W : World) (_base : Nat) (ok : Nat → Prop) (v : Value) (xs : List α) : Prop := ∃ A c, v = .slice A xs.length c ∧ xs.length ≤ c ∧ F d W ok A xs.length xs
section
variable {α β : Type} {d : Kd α} {e base base' n m c g N' lo hi : Nat} {ok ok' S : Nat → Prop} {w W w1 : World} {A : Option Addr} {ad : Addr} {u v v1 : Value} {xs : List α}
theorem R_newM {M:Nat→Prop} (h:d.R e w1 W.heap.size ok v xs) (hle:w.heap.size≤W.heap.size) (hM: ∀ k,w.heap.size≤k→M k):d.R e w1 W.heap.size (fun k=>M k∧ok k) v xs:=R_mono (R_bound h) (fun k hk=>⟨hM k (Nat.le_trans hle hk.2.1),hk.1⟩)
end
end Kd
end Go.Proofs.YtcfoebkbahpnaaaW.PrintWords

/- Maps with numbers for keys and bools in them: what each number reads as. -/
namespace Go.Proofs.Ytcfoebkbahpnaaa.L
open Go.RowKit Go.ChangeMaps Go.WideShapes Go.WideMaps Go.Proofs.YtcfoebkbahpnaaaW.PrintWords Go.Proofs.YtcfoebkbahpnaaaW.PrintLast
/-- block b is a map of at most n entries; the numbers of p read as true -/
def MapI (w : World) (b n : Nat) (p : Int → Bool) : Prop := ∃ D : DataW Unit, w.ownsMap Try.prog 3 (plainElem Try.prog 4) b n D ∧ ∀ j : Int, (Lit.int .i64 j).wf = true → D.atKey (.int .i64 j) (.lit (.bool false)) = .lit (.bool (p j))
theorem miK:Maps.Keyed Try.prog 3:=Maps.int_keyed Try.underlying3
theorem MapI.made (w:World):MapI (w.alloc (.map #[] 0)) w.heap.size 0 (fun _=>false):=⟨.map [],World.ownsMap_made w _ _ _,fun j _=>by simp[DataW.atKey]⟩
theorem MapI.lt {w:World} {b n:Nat} {p:Int→Bool} (h:MapI w b n p):b<w.heap.size:=h.choose_spec.1.lt
theorem MapI.mono {w:World} {b n m:Nat} {p:Int→Bool} (h:MapI w b n p) (hn:n≤m):MapI w b m p:=by
 obtain⟨D,h1,h2⟩:=h;exact⟨D,h1.mono hn,h2⟩
theorem MapI.like {w:World} {b n:Nat} {p q:Int→Bool} (h:MapI w b n p) (e: ∀ j,p j=q j):MapI w b n q:=by
 obtain⟨D,h1,h2⟩:=h;exact⟨D,h1,fun j hj=>(h2 j hj).trans (by rw[e j])⟩
theorem MapI.grown {w w1:World} {row:Option Nat} {b n:Nat} {p:Int→Bool} (h:MapI w b n p) (hg:w.grownBy w1 row) (hne:some b≠row):MapI w1 b n p:=by
 obtain⟨D,h1,h2⟩:=h;exact⟨D,h1.kept hg hne,h2⟩
theorem MapI.below {w w1:World} {b n:Nat} {p:Int→Bool} (h:MapI w b n p) (hb:Below w.heap.size w w1):MapI w1 b n p:=h.grown (grown_of_below hb none) (by simp)
theorem MapI.set {w:World} {b n:Nat} {p:Int→Bool} (h:MapI w b n p) {a:Addr} (ha:b≠a.block) (u:Value):MapI (w.setCell a u) b n p:=by
 obtain⟨D,h1,h2⟩:=h;exact⟨D,h1.setCell ha u,h2⟩
theorem MapI.ne {w:World} {b n g:Nat} {p:Int→Bool} {cs:Array Value} {t:TypeId} (h:MapI w b n p) (hg:w.heap[g]? =some (.cells cs t (0,0))):b≠g:=by
 rintro rfl;obtain⟨D,⟨es,cl,h1,_⟩,_⟩:=h;rw[h1]at hg;cases hg
section
variable {ops:Array Oper} {rest:List Oper} {o:Oper} {a:Act} {Q:Exit→Act→World→Prop}
theorem MapI.wp_put (w:World) (hg:o.guard=none) (m x v:Operand) (t:TypeId) (hop:o.op=Op.mapUpdate t m x v) (ht:Try.prog.underlying t=some (.map 3 4)) (b n:Nat) (p:Int→Bool)
 (hm:a.eval m= .map (some b)) (h:MapI w b n p) (hn:n<maxLen) (j:Int) (hj:(Lit.int .i64 j).wf=true) (hx:a.eval x= .int .i64 j) (hv:a.eval v= .bool true)
 (hK: ∀ w',MapI w' b (n+1) (fun i=>p i||i==j)→w.grownBy w' (some b)→wpList Try.prog ops Q rest (a.put o.dst undef) w'):wpList Try.prog ops Q (o::rest) a w:=by
 obtain⟨D,h1,h2⟩:=h;(refine wpList_mapUpdate_own w hg m x v t hop 3 4 miK ht _ b n D hm h1 hn _ _ _ hx hv (Maps.keyOf_int_mk Try.underlying3 hj) _ [] (plainElem_bool Try.underlying4 true) fun w' r1 r2=>hK w' ⟨_,r1,fun i hi=>?_⟩ r2);by_cases e:i=j
 ·subst e;rw[Maps.atKey_put_same h1.isMap (miK.key (Maps.keyOf_int_mk Try.underlying3 hj))];simp
 rw[Maps.atKey_put_other (fun h=>e (by injection h)),h2 i hi];simp[e]
end
end Go.Proofs.Ytcfoebkbahpnaaa.L

/- Maps with string keys and bools in them: which keys they have, and the walk's arms for them. -/
namespace Go.Proofs.Ytcfoebkbahpnaaa.L
open Go.RowKit Go.ChangeMaps Go.WideShapes Go.WideMaps Go.Proofs.YtcfoebkbahpnaaaW.PrintWords Go.Proofs.YtcfoebkbahpnaaaW.PrintLast
theorem lp_isE (l:List UInt8):l.isEmpty= !(l != []):=by cases l<;>rfl
/-- block b is a map of at most n entries; its keys are those of S -/
def MapS (w : World) (b n : Nat) (S : List ByteArray) : Prop := ∃ D : DataW Unit, w.ownsMap Try.prog 9 (plainElem Try.prog 4) b n D ∧ ∀ s : ByteArray, Maps.has D (.string s.data.toList) = true ↔ s ∈ S
theorem mpK:Maps.Keyed Try.prog 9:=Maps.string_keyed Try.underlying9
theorem MapS.made (w:World):MapS (w.alloc (.map #[] 0)) w.heap.size 0 []:=⟨.map [],World.ownsMap_made w _ _ _,fun s=>by simp[Maps.has]⟩
theorem MapS.lt {w:World} {b n:Nat} {S:List ByteArray} (h:MapS w b n S):b<w.heap.size:=h.choose_spec.1.lt
theorem MapS.mono {w:World} {b n m:Nat} {S:List ByteArray} (h:MapS w b n S) (hn:n≤m):MapS w b m S:=by
 obtain⟨D,h1,h2⟩:=h;exact⟨D,h1.mono hn,h2⟩
theorem MapS.like {w:World} {b n:Nat} {S T:List ByteArray} (h:MapS w b n S) (e: ∀ s,s ∈ S ↔ s ∈ T):MapS w b n T:=by
 obtain⟨D,h1,h2⟩:=h;exact⟨D,h1,fun s=>(h2 s).trans (e s)⟩
theorem MapS.grown {w w1:World} {row:Option Nat} {b n:Nat} {S:List ByteArray} (h:MapS w b n S) (hg:w.grownBy w1 row) (hne:some b≠row):MapS w1 b n S:=by
 obtain⟨D,h1,h2⟩:=h;exact⟨D,h1.kept hg hne,h2⟩
theorem MapS.below {w w1:World} {b n:Nat} {S:List ByteArray} (h:MapS w b n S) (hb:Below w.heap.size w w1):MapS w1 b n S:=h.grown (grown_of_below hb none) (by simp)
theorem MapS.set {w:World} {b n:Nat} {S:List ByteArray} (h:MapS w b n S) {a:Addr} (ha:b≠a.block) (u:Value):MapS (w.setCell a u) b n S:=by
 obtain⟨D,h1,h2⟩:=h;exact⟨D,h1.setCell ha u,h2⟩
theorem ba_of_list {a b:ByteArray} (h:a.data.toList=b.data.toList):a=b:=by
 cases a;cases b
 simp only[ByteArray.mk.injEq]at h ⊢;exact Array.toList_inj.1 h
/-- is a text among texts? -/
def hasB (S : List ByteArray) (s : ByteArray) : Bool := S.any fun x => x.data.toList == s.data.toList
theorem hasB_iff {S:List ByteArray} {s:ByteArray}:hasB S s=true ↔ s ∈ S:=by
 unfold hasB;rw[List.any_eq_true];constructor
 ·rintro⟨x,hx,he⟩;rwa[← ba_of_list (beq_iff_eq.1 he)]
 exact fun h=>⟨s,h,beq_self_eq_true _⟩
/-- texts without one -/
def butB (L : List ByteArray) (s : ByteArray) : List ByteArray := L.filter fun x => !(x.data.toList == s.data.toList)
theorem butB_iff {L:List ByteArray} {s t:ByteArray}:t ∈ butB L s ↔ t ∈ L∧t≠s:=by
 unfold butB;rw[List.mem_filter,Bool.not_eq_true',beq_eq_false_iff_ne];exact and_congr_right fun _=>not_congr ⟨ba_of_list,fun h=>by rw[h]⟩
theorem mp_put {D:DataW Unit} {S:List ByteArray} (hD:Maps.IsMap D) (h2: ∀ s:ByteArray,Maps.has D (.string s.data.toList)=true ↔ s ∈ S) (s:ByteArray) (hs:s.size≤maxLen) (d:DataW Unit) (t:ByteArray):
 Maps.has (D.put (.string s.data.toList) d) (.string t.data.toList)=true ↔ t ∈ s::S:=by
 by_cases e:t=s
 ·subst e;simp[Maps.has_put_same hD (mpK.key (keyOf_string_mk Try.underlying9 hs))]
 rw[Maps.has_put_other (fun h=>e (ba_of_list (by injection h)))];simp[h2,e]
section
variable {ops:Array Oper} {rest:List Oper} {o:Oper} {a:Act} {Q:Exit→Act→World→Prop}
theorem MapS.wp_put (w:World) (hg:o.guard=none) (m x v:Operand) (t:TypeId) (hop:o.op=Op.mapUpdate t m x v) (ht:Try.prog.underlying t=some (.map 9 4)) (b n:Nat) (S:List ByteArray)
 (hm:a.eval m= .map (some b)) (h:MapS w b n S) (hn:n<maxLen) (s:ByteArray) (bv:Bool) (hs:s.size≤maxLen) (hx:a.eval x= .string s) (hv:a.eval v= .bool bv)
 (hK: ∀ w',MapS w' b (n+1) (s::S)→w.grownBy w' (some b)→wpList Try.prog ops Q rest (a.put o.dst undef) w'):wpList Try.prog ops Q (o::rest) a w:=by
 obtain⟨D,h1,h2⟩:=h;exact wpList_mapUpdate_own w hg m x v t hop 9 4 mpK ht _ b n D hm h1 hn _ _ _ hx hv (keyOf_string_mk Try.underlying9 hs) _ [] (plainElem_bool Try.underlying4 bv) fun w' r1 r2=>hK w' ⟨_,r1,mp_put h1.isMap h2 s hs _⟩ r2
theorem mp_bool' {P:Program} {e:TypeId} (he:P.underlying e=some .bool) {v:Value} {z:DataW Unit × List MemPlace} (h:plainElem P e v=some z): ∃ c,v= .bool c:=by
 unfold plainElem at h;rw[he]at h;cases v with
 |bool c=>exact⟨c,rfl⟩
 |_=>cases h
theorem mp_bool {v:Value} {z:DataW Unit × List MemPlace} (h:plainElem Try.prog 4 v=some z): ∃ c,v= .bool c:=mp_bool' Try.underlying4 h
theorem mp_size {P:Program} {k:TypeId} (hk:P.underlying k=some .string) {s:ByteArray} {kl:Lit} (h:keyOf P k (.string s)=some kl):s.size≤maxLen∧kl= .string s.data.toList:=by
 by_cases e:s.size≤maxLen
 ·rw[keyOf_string_mk hk e]at h;exact⟨e,(Option.some.inj h).symm⟩
 exfalso;rw[keyOf_string hk]at h;simp[mapKey,hk,e]at h
def isB (v : Value) : Prop := ∃ c, v = .bool c
theorem MapS.wp_has (w:World) (hg:o.guard=none) (m x:Operand) (t:TypeId) (hop:o.op=Op.lookup t m x true) (ht:Try.prog.underlying t=some (.map 9 4)) (hz:(zeroValue 4).run Try.prog w= .ok (.bool false) w) (b n:Nat) (S:List ByteArray)
 (hm:a.eval m= .map (some b)) (h:MapS w b n S) (s:ByteArray) (hs:s.size≤maxLen) (hx:a.eval x= .string s)
 (hK: ∀ V:Value,isB V→wpList Try.prog ops Q rest (a.put o.dst (.tuple #[V,.bool (hasB S s)])) w):wpList Try.prog ops Q (o::rest) a w:=by
 obtain⟨D,h1,h2⟩:=h;(refine wpList_lookup_own_ok w hg m x t hop 9 4 mpK ht _ hz _ [] (plainElem_bool Try.underlying4 false) b n D hm h1 _ _ hx (keyOf_string_mk Try.underlying9 hs) fun v ps hv=>?_);obtain⟨c,rfl⟩:=mp_bool hv;rw[show Maps.has D (.string s.data.toList)=hasB S s by rw[Bool.eq_iff_iff,h2,hasB_iff]];exact hK _ ⟨c,rfl⟩
theorem MapS.wp_get (w:World) (hg:o.guard=none) (m x:Operand) (t:TypeId) (hop:o.op=Op.lookup t m x false) (ht:Try.prog.underlying t=some (.map 9 4)) (hz:(zeroValue 4).run Try.prog w= .ok (.bool false) w) (b n:Nat) (S:List ByteArray)
 (hm:a.eval m= .map (some b)) (h:MapS w b n S) (s:ByteArray) (hs:s.size≤maxLen) (hx:a.eval x= .string s)
 (hK: ∀ V:Value,isB V→wpList Try.prog ops Q rest (a.put o.dst V) w):wpList Try.prog ops Q (o::rest) a w:=by
 obtain⟨D,h1,h2⟩:=h;(refine wpList_plain hg fun K' hK'=>?_);obtain⟨v,ps,hrun,hv⟩:=h1.lookup mpK ht hz (plainElem_bool Try.underlying4 false) (keyOf_string_mk Try.underlying9 hs);obtain⟨c,rfl⟩:=mp_bool hv;unfold Oper.wp;simp[execOp,hop,hm,hx,hrun,Result.andThen];exact hK' _ _ (hK _ ⟨c,rfl⟩)
/-- block b is such a map, block r goes through it; the keys of L are still to come -/
def RangeS (w : World) (b r n : Nat) (S L : List ByteArray) (cnt : Nat) : Prop := ∃ (D : DataW Unit) (left : Lit → Bool), w.ranges Try.prog 9 (plainElem Try.prog 4) b r n D left cnt ∧ (∀ s : ByteArray, Maps.has D (.string s.data.toList) = true ↔ s ∈ S) ∧ ∀ s : ByteArray, left (.string s.data.toList) = true ↔ s ∈ L
theorem RangeS.map {w:World} {b r n:Nat} {S L:List ByteArray} {cnt:Nat} (h:RangeS w b r n S L cnt):MapS w b n S:=by
 obtain⟨D,left,h1,h2,_⟩:=h;exact⟨D,h1.owns,h2⟩
theorem RangeS.left_eq {w:World} {b r n:Nat} {S L:List ByteArray} {cnt:Nat} (h:RangeS w b r n S L cnt):w.rangeLeft b r=cnt:=by
 obtain⟨D,left,h1,_⟩:=h;exact h1.left_eq
theorem RangeS.lt {w:World} {b r n:Nat} {S L:List ByteArray} {cnt:Nat} (h:RangeS w b r n S L cnt):r<w.heap.size:=by
 obtain⟨D,left,h1,_⟩:=h;exact h1.lt
theorem RangeS.grown {w w1:World} {row:Option Nat} {b r n:Nat} {S L:List ByteArray} {cnt:Nat} (h:RangeS w b r n S L cnt) (hg:w.grownBy w1 row) (hb:some b≠row) (hr:some r≠row):RangeS w1 b r n S L cnt:=by
 obtain⟨D,left,h1,h2⟩:=h;exact⟨D,left,h1.kept hg hb hr,h2⟩
theorem RangeS.below {w w1:World} {b r n:Nat} {S L:List ByteArray} {cnt:Nat} (h:RangeS w b r n S L cnt) (hb:Below w.heap.size w w1):RangeS w1 b r n S L cnt:=h.grown (grown_of_below hb none) (by simp) (by simp)
theorem MapS.wp_range (w:World) (hg:o.guard=none) (m:Operand) (t:TypeId) (hop:o.op=Op.range t m) (ht:Try.prog.underlying t=some (.map 9 4)) (b n:Nat) (S:List ByteArray)
 (hm:a.eval m= .map (some b)) (h:MapS w b n S)
 (hK: ∀ w' cnt,cnt≤n→RangeS w' b w.heap.size n S S cnt→w.grownBy w' none→w'.heap.size=w.heap.size+1→wpList Try.prog ops Q rest (a.put o.dst (.pointer (some ⟨w.heap.size,0,none⟩))) w'):wpList Try.prog ops Q (o::rest) a w:=by
 obtain⟨D,h1,h2⟩:=h;exact wpList_range_own w hg m t hop 9 4 mpK ht _ b n D hm h1 fun w' r1 r2 r3=>hK w' _ h1.size_le ⟨D,_,r1,h2,h2⟩ r2 r3
theorem RangeS.wp_next (w:World) (hg:o.guard=none) (it:Operand) (hop:o.op=Op.next it false) (b r n:Nat) (S L:List ByteArray) (cnt:Nat) (hit:a.eval it= .pointer (some ⟨r,0,none⟩)) (h:RangeS w b r n S L cnt)
 (hDone:(∀ s,s ∉ L)→wpList Try.prog ops Q rest (a.put o.dst (.tuple #[.bool false])) w)
 (hMore: ∀ (s:ByteArray) (V:Value) (w':World) (cnt':Nat),isB V→s.size≤maxLen→s ∈ L→RangeS w' b r n S (butB L s) cnt'→cnt'<cnt→w.grownBy w' (some r)→w'.heap.size=w.heap.size→
  (Instr.entry (.pointer (some ⟨r,0,none⟩))).run Try.prog w'= .ok (.tuple #[.string s,V]) w'→wpList Try.prog ops Q rest (a.put o.dst (.tuple #[.bool true,.string s,V])) w'):wpList Try.prog ops Q (o::rest) a w:=by
 obtain⟨D,left,h1,h2,h3⟩:=h;refine wpList_next_ranges w hg it hop 9 mpK _ Value.string Value.bool (fun key kl hk=>Maps.keyOf_string_inv Try.underlying9 hk) (fun v y hv=>mp_bool hv) b r n D left cnt hit h1 (fun _ hl=>hDone fun s hs=>?_) fun s c kl y w' cnt' hk hl hv hat hr hc hgr hsz hen=>?_
 ·have:=(h3 s).2 hs;rw[hl]at this;cases this
 obtain⟨hs,rfl⟩:=mp_size Try.underlying9 hk;refine hMore s (.bool c) w' cnt' ⟨c,rfl⟩ hs ((h3 s).1 hl) ⟨D,_,hr,h2,fun t=>?_⟩ hc hgr hsz hen;rw[butB_iff,Bool.and_eq_true,h3,Bool.not_eq_true'];(refine and_congr_right fun _=>?_);by_cases e:t=s
 ·subst e;simp[WideAt.sameKey_self (mpK.key hk)]
 have:(Lit.string t.data.toList).sameKey (.string s.data.toList)=false:=by
  cases hq:(Lit.string t.data.toList).sameKey (.string s.data.toList)
  ·rfl
  exact absurd (ba_of_list (by have:=WideAt.sameKey_eq hq;injection this)) e
 simp[this,e]
theorem MapS.run_has {w:World} {t b n:Nat} {S:List ByteArray} (ht:Try.prog.underlying t=some (.map 9 4)) (hz:(zeroValue 4).run Try.prog w= .ok (.bool false) w) (h:MapS w b n S) {s:ByteArray} (hs:s.size≤maxLen):
 ∃ c,(Instr.lookup t (.map (some b)) (.string s) true).run Try.prog w= .ok (.tuple #[.bool c,.bool (hasB S s)]) w:=by
 obtain⟨D,h1,h2⟩:=h;obtain⟨v,ps,hrun,hv⟩:=h1.look_ok mpK ht hz (plainElem_bool Try.underlying4 false) (keyOf_string_mk Try.underlying9 hs);obtain⟨c,rfl⟩:=mp_bool hv;rw[show Maps.has D (.string s.data.toList)=hasB S s by rw[Bool.eq_iff_iff,h2,hasB_iff]]at hrun;exact⟨c,hrun⟩
end
end Go.Proofs.Ytcfoebkbahpnaaa.L
