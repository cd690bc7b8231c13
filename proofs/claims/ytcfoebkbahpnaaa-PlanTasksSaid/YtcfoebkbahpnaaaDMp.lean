/- Maps with string keys and bools in them: which keys they have, and the walk's arms for them. -/
import Derived.Test.YtcfoebkbahpnaaaProg
import Derived.Test.YtcfoebkbahpnaaaDWWords
import Derived.Test.YtcfoebkbahpnaaaDWLast
import Derived.Test.YtcfoebkbahpnaaaDWMore
import Derived.Maps.RangeWalk
import Derived.Maps.OwnIn
import Derived.Sort.MapsRangeIn
import Derived.StringKeys
namespace Go.Proofs.Ytcfoebkbahpnaaa.L
open Go.RowKit Go.ChangeMaps Go.WideShapes Go.WideMaps Go.Proofs.YtcfoebkbahpnaaaW.PrintWords Go.Proofs.YtcfoebkbahpnaaaW.PrintLast
theorem lp_isE (l:List UInt8):l.isEmpty= !(l != []):=by cases l<;>rfl
/-- block b is a map of at most n entries; its keys are those of S -/
def MapS (w : World) (b n : Nat) (S : List ByteArray) : Prop := ∃ D : DataW Unit, w.ownsMap Try.prog 9 (plainElem Try.prog 4) b n D ∧ ∀ s : ByteArray, Maps.has D (.string s.data.toList) = true ↔ s ∈ S
theorem mpK:Maps.Keyed Try.prog 9:=Maps.string_keyed Try.underlying9
theorem MapS.made (w:World):MapS (w.alloc (.map #[] 0)) w.heap.size 0 []:=⟨.map [],World.ownsMap_made w _ _ _,fun s=>by simp[Maps.has]⟩
theorem MapS.lt {w:World} {b n:Nat} {S:List ByteArray} (h:MapS w b n S):b<w.heap.size:=h.choose_spec.1.lt
theorem MapS.mono {w:World} {b n m:Nat} {S:List ByteArray} (h:MapS w b n S) (hn:n≤m):MapS w b m S:=by
 obtain⟨D,h1,h2⟩:=h;exact⟨D,h1.mono hn,h2⟩
theorem MapS.like {w:World} {b n:Nat} {S T:List ByteArray} (h:MapS w b n S) (e: ∀ s,s ∈ S ↔ s ∈ T):MapS w b n T:=by
 obtain⟨D,h1,h2⟩:=h;exact⟨D,h1,fun s=>(h2 s).trans (e s)⟩
theorem MapS.grown {w w1:World} {row:Option Nat} {b n:Nat} {S:List ByteArray} (h:MapS w b n S) (hg:w.grownBy w1 row) (hne:some b≠row):MapS w1 b n S:=by
 obtain⟨D,h1,h2⟩:=h;exact⟨D,h1.kept hg hne,h2⟩
theorem MapS.below {w w1:World} {b n:Nat} {S:List ByteArray} (h:MapS w b n S) (hb:Below w.heap.size w w1):MapS w1 b n S:=h.grown (grown_of_below hb none) (by simp)
theorem MapS.set {w:World} {b n:Nat} {S:List ByteArray} (h:MapS w b n S) {a:Addr} (ha:b≠a.block) (u:Value):MapS (w.setCell a u) b n S:=by
 obtain⟨D,h1,h2⟩:=h;exact⟨D,h1.setCell ha u,h2⟩
theorem ba_of_list {a b:ByteArray} (h:a.data.toList=b.data.toList):a=b:=by
 cases a;cases b
 simp only[ByteArray.mk.injEq]at h ⊢;exact Array.toList_inj.1 h
/-- is a text among texts? -/
def hasB (S : List ByteArray) (s : ByteArray) : Bool := S.any fun x => x.data.toList == s.data.toList
theorem hasB_iff {S:List ByteArray} {s:ByteArray}:hasB S s=true ↔ s ∈ S:=by
 unfold hasB;rw[List.any_eq_true];constructor
 ·rintro⟨x,hx,he⟩;rwa[← ba_of_list (beq_iff_eq.1 he)]
 exact fun h=>⟨s,h,beq_self_eq_true _⟩
/-- texts without one -/
def butB (L : List ByteArray) (s : ByteArray) : List ByteArray := L.filter fun x => !(x.data.toList == s.data.toList)
theorem butB_iff {L:List ByteArray} {s t:ByteArray}:t ∈ butB L s ↔ t ∈ L∧t≠s:=by
 unfold butB;rw[List.mem_filter,Bool.not_eq_true',beq_eq_false_iff_ne];exact and_congr_right fun _=>not_congr ⟨ba_of_list,fun h=>by rw[h]⟩
theorem mp_put {D:DataW Unit} {S:List ByteArray} (hD:Maps.IsMap D) (h2: ∀ s:ByteArray,Maps.has D (.string s.data.toList)=true ↔ s ∈ S) (s:ByteArray) (hs:s.size≤maxLen) (d:DataW Unit) (t:ByteArray):
 Maps.has (D.put (.string s.data.toList) d) (.string t.data.toList)=true ↔ t ∈ s::S:=by
 by_cases e:t=s
 ·subst e;simp[Maps.has_put_same hD (mpK.key (keyOf_string_mk Try.underlying9 hs))]
 rw[Maps.has_put_other (fun h=>e (ba_of_list (by injection h)))];simp[h2,e]
section
variable {ops:Array Oper} {rest:List Oper} {o:Oper} {a:Act} {Q:Exit→Act→World→Prop}
theorem MapS.wp_put (w:World) (hg:o.guard=none) (m x v:Operand) (t:TypeId) (hop:o.op=Op.mapUpdate t m x v) (ht:Try.prog.underlying t=some (.map 9 4)) (b n:Nat) (S:List ByteArray)
 (hm:a.eval m= .map (some b)) (h:MapS w b n S) (hn:n<maxLen) (s:ByteArray) (bv:Bool) (hs:s.size≤maxLen) (hx:a.eval x= .string s) (hv:a.eval v= .bool bv)
 (hK: ∀ w',MapS w' b (n+1) (s::S)→w.grownBy w' (some b)→wpList Try.prog ops Q rest (a.put o.dst undef) w'):wpList Try.prog ops Q (o::rest) a w:=by
 obtain⟨D,h1,h2⟩:=h;exact wpList_mapUpdate_own w hg m x v t hop 9 4 mpK ht _ b n D hm h1 hn _ _ _ hx hv (keyOf_string_mk Try.underlying9 hs) _ [] (plainElem_bool Try.underlying4 bv) fun w' r1 r2=>hK w' ⟨_,r1,mp_put h1.isMap h2 s hs _⟩ r2
theorem mp_bool' {P:Program} {e:TypeId} (he:P.underlying e=some .bool) {v:Value} {z:DataW Unit × List MemPlace} (h:plainElem P e v=some z): ∃ c,v= .bool c:=by
 unfold plainElem at h;rw[he]at h;cases v with
 |bool c=>exact⟨c,rfl⟩
 |_=>cases h
theorem mp_bool {v:Value} {z:DataW Unit × List MemPlace} (h:plainElem Try.prog 4 v=some z): ∃ c,v= .bool c:=mp_bool' Try.underlying4 h
theorem mp_size {P:Program} {k:TypeId} (hk:P.underlying k=some .string) {s:ByteArray} {kl:Lit} (h:keyOf P k (.string s)=some kl):s.size≤maxLen∧kl= .string s.data.toList:=by
 by_cases e:s.size≤maxLen
 ·rw[keyOf_string_mk hk e]at h;exact⟨e,(Option.some.inj h).symm⟩
 exfalso;rw[keyOf_string hk]at h;simp[mapKey,hk,e]at h
def isB (v : Value) : Prop := ∃ c, v = .bool c
theorem MapS.wp_has (w:World) (hg:o.guard=none) (m x:Operand) (t:TypeId) (hop:o.op=Op.lookup t m x true) (ht:Try.prog.underlying t=some (.map 9 4)) (hz:(zeroValue 4).run Try.prog w= .ok (.bool false) w) (b n:Nat) (S:List ByteArray)
 (hm:a.eval m= .map (some b)) (h:MapS w b n S) (s:ByteArray) (hs:s.size≤maxLen) (hx:a.eval x= .string s)
 (hK: ∀ V:Value,isB V→wpList Try.prog ops Q rest (a.put o.dst (.tuple #[V,.bool (hasB S s)])) w):wpList Try.prog ops Q (o::rest) a w:=by
 obtain⟨D,h1,h2⟩:=h;(refine wpList_lookup_own_ok w hg m x t hop 9 4 mpK ht _ hz _ [] (plainElem_bool Try.underlying4 false) b n D hm h1 _ _ hx (keyOf_string_mk Try.underlying9 hs) fun v ps hv=>?_);obtain⟨c,rfl⟩:=mp_bool hv;rw[show Maps.has D (.string s.data.toList)=hasB S s by rw[Bool.eq_iff_iff,h2,hasB_iff]];exact hK _ ⟨c,rfl⟩
theorem MapS.wp_get (w:World) (hg:o.guard=none) (m x:Operand) (t:TypeId) (hop:o.op=Op.lookup t m x false) (ht:Try.prog.underlying t=some (.map 9 4)) (hz:(zeroValue 4).run Try.prog w= .ok (.bool false) w) (b n:Nat) (S:List ByteArray)
 (hm:a.eval m= .map (some b)) (h:MapS w b n S) (s:ByteArray) (hs:s.size≤maxLen) (hx:a.eval x= .string s)
 (hK: ∀ V:Value,isB V→wpList Try.prog ops Q rest (a.put o.dst V) w):wpList Try.prog ops Q (o::rest) a w:=by
 obtain⟨D,h1,h2⟩:=h;(refine wpList_plain hg fun K' hK'=>?_);obtain⟨v,ps,hrun,hv⟩:=h1.lookup mpK ht hz (plainElem_bool Try.underlying4 false) (keyOf_string_mk Try.underlying9 hs);obtain⟨c,rfl⟩:=mp_bool hv;unfold Oper.wp;simp[execOp,hop,hm,hx,hrun,Result.andThen];exact hK' _ _ (hK _ ⟨c,rfl⟩)
/-- block b is such a map, block r goes through it; the keys of L are still to come -/
def RangeS (w : World) (b r n : Nat) (S L : List ByteArray) (cnt : Nat) : Prop := ∃ (D : DataW Unit) (left : Lit → Bool), w.ranges Try.prog 9 (plainElem Try.prog 4) b r n D left cnt ∧ (∀ s : ByteArray, Maps.has D (.string s.data.toList) = true ↔ s ∈ S) ∧ ∀ s : ByteArray, left (.string s.data.toList) = true ↔ s ∈ L
theorem RangeS.map {w:World} {b r n:Nat} {S L:List ByteArray} {cnt:Nat} (h:RangeS w b r n S L cnt):MapS w b n S:=by
 obtain⟨D,left,h1,h2,_⟩:=h;exact⟨D,h1.owns,h2⟩
theorem RangeS.left_eq {w:World} {b r n:Nat} {S L:List ByteArray} {cnt:Nat} (h:RangeS w b r n S L cnt):w.rangeLeft b r=cnt:=by
 obtain⟨D,left,h1,_⟩:=h;exact h1.left_eq
theorem RangeS.lt {w:World} {b r n:Nat} {S L:List ByteArray} {cnt:Nat} (h:RangeS w b r n S L cnt):r<w.heap.size:=by
 obtain⟨D,left,h1,_⟩:=h;exact h1.lt
theorem RangeS.grown {w w1:World} {row:Option Nat} {b r n:Nat} {S L:List ByteArray} {cnt:Nat} (h:RangeS w b r n S L cnt) (hg:w.grownBy w1 row) (hb:some b≠row) (hr:some r≠row):RangeS w1 b r n S L cnt:=by
 obtain⟨D,left,h1,h2⟩:=h;exact⟨D,left,h1.kept hg hb hr,h2⟩
theorem RangeS.below {w w1:World} {b r n:Nat} {S L:List ByteArray} {cnt:Nat} (h:RangeS w b r n S L cnt) (hb:Below w.heap.size w w1):RangeS w1 b r n S L cnt:=h.grown (grown_of_below hb none) (by simp) (by simp)
theorem MapS.wp_range (w:World) (hg:o.guard=none) (m:Operand) (t:TypeId) (hop:o.op=Op.range t m) (ht:Try.prog.underlying t=some (.map 9 4)) (b n:Nat) (S:List ByteArray)
 (hm:a.eval m= .map (some b)) (h:MapS w b n S)
 (hK: ∀ w' cnt,cnt≤n→RangeS w' b w.heap.size n S S cnt→w.grownBy w' none→w'.heap.size=w.heap.size+1→wpList Try.prog ops Q rest (a.put o.dst (.pointer (some ⟨w.heap.size,0,none⟩))) w'):wpList Try.prog ops Q (o::rest) a w:=by
 obtain⟨D,h1,h2⟩:=h;exact wpList_range_own w hg m t hop 9 4 mpK ht _ b n D hm h1 fun w' r1 r2 r3=>hK w' _ h1.size_le ⟨D,_,r1,h2,h2⟩ r2 r3
theorem RangeS.wp_next (w:World) (hg:o.guard=none) (it:Operand) (hop:o.op=Op.next it false) (b r n:Nat) (S L:List ByteArray) (cnt:Nat) (hit:a.eval it= .pointer (some ⟨r,0,none⟩)) (h:RangeS w b r n S L cnt)
 (hDone:(∀ s,s ∉ L)→wpList Try.prog ops Q rest (a.put o.dst (.tuple #[.bool false])) w)
 (hMore: ∀ (s:ByteArray) (V:Value) (w':World) (cnt':Nat),isB V→s.size≤maxLen→s ∈ L→RangeS w' b r n S (butB L s) cnt'→cnt'<cnt→w.grownBy w' (some r)→w'.heap.size=w.heap.size→
  (Instr.entry (.pointer (some ⟨r,0,none⟩))).run Try.prog w'= .ok (.tuple #[.string s,V]) w'→wpList Try.prog ops Q rest (a.put o.dst (.tuple #[.bool true,.string s,V])) w'):wpList Try.prog ops Q (o::rest) a w:=by
 obtain⟨D,left,h1,h2,h3⟩:=h;refine wpList_next_ranges w hg it hop 9 mpK _ Value.string Value.bool (fun key kl hk=>Maps.keyOf_string_inv Try.underlying9 hk) (fun v y hv=>mp_bool hv) b r n D left cnt hit h1 (fun _ hl=>hDone fun s hs=>?_) fun s c kl y w' cnt' hk hl hv hat hr hc hgr hsz hen=>?_
 ·have:=(h3 s).2 hs;rw[hl]at this;cases this
 obtain⟨hs,rfl⟩:=mp_size Try.underlying9 hk;refine hMore s (.bool c) w' cnt' ⟨c,rfl⟩ hs ((h3 s).1 hl) ⟨D,_,hr,h2,fun t=>?_⟩ hc hgr hsz hen;rw[butB_iff,Bool.and_eq_true,h3,Bool.not_eq_true'];(refine and_congr_right fun _=>?_);by_cases e:t=s
 ·subst e;simp[WideAt.sameKey_self (mpK.key hk)]
 have:(Lit.string t.data.toList).sameKey (.string s.data.toList)=false:=by
  cases hq:(Lit.string t.data.toList).sameKey (.string s.data.toList)
  ·rfl
  exact absurd (ba_of_list (by have:=WideAt.sameKey_eq hq;injection this)) e
 simp[this,e]
theorem MapS.run_has {w:World} {t b n:Nat} {S:List ByteArray} (ht:Try.prog.underlying t=some (.map 9 4)) (hz:(zeroValue 4).run Try.prog w= .ok (.bool false) w) (h:MapS w b n S) {s:ByteArray} (hs:s.size≤maxLen):
 ∃ c,(Instr.lookup t (.map (some b)) (.string s) true).run Try.prog w= .ok (.tuple #[.bool c,.bool (hasB S s)]) w:=by
 obtain⟨D,h1,h2⟩:=h;obtain⟨v,ps,hrun,hv⟩:=h1.look_ok mpK ht hz (plainElem_bool Try.underlying4 false) (keyOf_string_mk Try.underlying9 hs);obtain⟨c,rfl⟩:=mp_bool hv;rw[show Maps.has D (.string s.data.toList)=hasB S s by rw[Bool.eq_iff_iff,h2,hasB_iff]]at hrun;exact⟨c,hrun⟩
end
end Go.Proofs.Ytcfoebkbahpnaaa.L
