/- What the values without memory say of the memory, and what a step of the program may turn of it. -/
import Derived.Test.YtcfoebkbahpnaaaGreatZAa
import Derived.Deep.AppendSrc
set_option linter.unusedVariables false
set_option linter.unusedSimpArgs false
namespace Go.Proofs.YtcfoebkbahpnaaaGreat.Ab
open Go

/-- Who may write a cell: a slot's slice behind its end; an object's own block; an object's slice behind its end; somebody else; nobody any more. -/
inductive Pl where
  | slot (t j : Nat) | blk (k : Nat) | cell (k j : Nat) | rest | junk
  deriving DecidableEq
abbrev Who := Nat → Nat → Option Pl

/-- A value read off cells that nobody writes (D). -/
inductive Dat (D : Nat → Nat → Prop) (w : World) : DV → Value → Prop
  | v {x : Value} (h : x.oneCell' = true) : Dat D w (.v x) x
  | ag {cs : List DV} {arr : Array Value} (hl : arr.size = cs.length) (ho : ∀ y ∈ arr, y.oneCell' = true)
      (h : ∀ (i : Nat) (x : DV) (y : Value), cs[i]? = some x → arr[i]? = some y → Dat D w x y) : Dat D w (.ag cs) (.agg arr)
  | tu {cs : List DV} {arr : Array Value} (hl : arr.size = cs.length)
      (h : ∀ (i : Nat) (x : DV) (y : Value), cs[i]? = some x → arr[i]? = some y → Dat D w x y) : Dat D w (.tu cs) (.tuple arr)
  | sl {own : Bool} {sz : Nat} {rows : List (List DV)} {A : Option Addr} {cap : Nat} (c : Nat → Value) (hcap : rows.length ≤ cap)
      (hrow : ∀ r ∈ rows, r.length = sz) (hA : 0 < rows.length → 0 < sz ∧ ∃ b o, A = some ⟨b, o, none⟩)
      (hc : ∀ b o q, A = some ⟨b, o, none⟩ → q < rows.length * sz → D b (o + q) ∧ w.cell? ⟨b, o + q, none⟩ = some (c q) ∧ (c q).oneCell' = true)
      (hd : ∀ (i j : Nat) (r : List DV) (x : DV), rows[i]? = some r → r[j]? = some x → Dat D w x (c (i * sz + j))) : Dat D w (.sl own sz rows) (.slice A rows.length cap)

theorem Dat.imp {D D':Nat→Nat→Prop} {w w':World} (h: ∀ b o,D b o→(w.cell? ⟨b,o,none⟩).isSome=true→D' b o∧w'.cell? ⟨b,o,none⟩=w.cell? ⟨b,o,none⟩) {x:DV} {v:Value} (hd:Dat D w x v):Dat D' w' x v:=by
 induction hd with
 |v h1=>exact .v h1
 |ag hl ho _ ih=>exact .ag hl ho ih
 |tu hl _ ih=>exact .tu hl ih
 |sl c hcap hrow hA hc _ ih=>
  refine .sl c hcap hrow hA (fun b o q e hq=>?_) ih;obtain⟨h1,h2,h3⟩:=hc b o q e hq;obtain⟨h4,h5⟩:=h b (o+q) h1 (by rw[h2];rfl);exact⟨h4,h5.trans h2,h3⟩
/-- The slice owns what lies behind its end. -/
def OwnS (p : Nat → Nat → Prop) (w : World) : DV → Value → Prop
  | .sl true sz rows, v => (v = .slice none 0 0) ∨ ∃ g cap cur e, v = .slice (some ⟨g, 0, none⟩) rows.length cap ∧ w.heap[g]? = some (.cells cur e (0, 0)) ∧
      rows.length ≤ cap ∧ cap ≤ maxLen ∧ cur.size = cap * sz ∧ 0 < sz ∧ ∀ o, rows.length * sz ≤ o → p g o
  | _, _ => True
def OwnA (p : Nat → Nat → Nat → Prop) (w : World) (x : DV) (v : Value) : Prop :=
  match x with
  | .tu cs => ∀ vs, v = .tuple vs → ∀ (j : Nat) (y : DV) (u : Value), cs[j]? = some y → vs[j]? = some u → OwnS (p j) w y u
  | x => OwnS (p 0) w x v

/-- Block by block: what a step leaves as it is. -/
def BP (p : Nat → Prop) (x y : Option Obj) : Prop :=
  match x with
  | some (.cells c ty f) => ∃ c', y = some (.cells c' ty f) ∧ c'.size = c.size ∧ ∀ o, p o → c'[o]? = c[o]?
  | x => y = x
theorem BP.refl (p:Nat→Prop) (x:Option Obj):BP p x x:=by
 unfold BP;split
 ·exact⟨_,rfl,rfl,fun _ _=>rfl⟩
 rfl
theorem BP.trans {p q:Nat→Prop} {x y z:Option Obj} (h:BP p x y) (k:BP q y z) (hpq: ∀ o,p o→q o):BP p x z:=by
 cases x with
 |none=>simp only[BP]at h ⊢;subst h;exact k
 |some a=>
  cases a with
  |cells c ty f=>
   obtain⟨c',rfl,h1,h2⟩:=h;obtain⟨c'',rfl,k1,k2⟩:=k;exact⟨c'',rfl,k1.trans h1,fun o ho=>(k2 o (hpq o ho)).trans (h2 o ho)⟩
  |_=>simp only[BP]at h ⊢;subst h;exact k
/-- What a step may turn: cells that somebody of its own may write; new blocks. -/
structure Pres (who : Who) (w : World) (who' : Who) (w' : World) : Prop where
  size : w.heap.size ≤ w'.heap.size
  os : w'.os = w.os
  tape : w'.tape = w.tape
  output : w'.output = w.output
  blk : ∀ b, b < w.heap.size → BP (fun o => who b o = none ∨ who b o = some .rest) w.heap[b]? w'.heap[b]?
  ro : ∀ b o, b < w.heap.size → who b o = none → who' b o = none
  rest : ∀ b o, b < w.heap.size → (who b o = some .rest ↔ who' b o = some .rest)
  new : ∀ b o, w.heap.size ≤ b → who' b o ≠ some .rest

def Fresh (who : Who) (w : World) : Prop := ∀ b o, w.heap.size ≤ b → who b o = none

theorem Pres.refl {who:Who} {w:World} (hf:Fresh who w):Pres who w who w:=
 ⟨Nat.le_refl _,rfl,rfl,rfl,fun _ _=>BP.refl _ _,fun _ _ _ h=>h,fun _ _ _=>Iff.rfl,fun b o h=>by rw[hf b o h];simp⟩
theorem Pres.trans {who who1 who2:Who} {w w1 w2:World} (h:Pres who w who1 w1) (k:Pres who1 w1 who2 w2):Pres who w who2 w2 where
 size:=Nat.le_trans h.size k.size
 os:=k.os.trans h.os
 tape:=k.tape.trans h.tape
 output:=k.output.trans h.output
 blk b hb:=(h.blk b hb).trans (k.blk b (Nat.lt_of_lt_of_le hb h.size)) fun o ho=>ho.imp (h.ro b o hb) ((h.rest b o hb).1)
 ro b o hb e:=k.ro b o (Nat.lt_of_lt_of_le hb h.size) (h.ro b o hb e)
 rest b o hb:=(h.rest b o hb).trans (k.rest b o (Nat.lt_of_lt_of_le hb h.size))
 new b o hb e:=by
  by_cases hlt:b<w1.heap.size
  ·exact h.new b o hb ((k.rest b o hlt).2 e)
  exact k.new b o (by omega) e
theorem cell_lt {w:World} {b o:Nat} (h:(w.cell? ⟨b,o,none⟩).isSome=true):b<w.heap.size:=by
 obtain⟨v,hv⟩:=Option.isSome_iff_exists.1 h;exact World.block_lt_of_cell? w _ hv
theorem heap_lt {w:World} {b:Nat} {o:Obj} (h:w.heap[b]? =some o):b<w.heap.size:=(Array.getElem?_eq_some_iff.1 h).1
theorem BP.cell {w w':World} {b o:Nat} {p:Nat→Prop} (h:BP p w.heap[b]? w'.heap[b]?) (hp:p o):w'.cell? ⟨b,o,none⟩=w.cell? ⟨b,o,none⟩:=by
 unfold BP at h;split at h
 ·rename_i c ty f hb;obtain⟨c',h1,h2,h3⟩:=h;simp only[World.cell?,hb,h1];simpa using h3 o hp
 simp only[World.cell?,h]
abbrev Ro (who : Who) : Nat → Nat → Prop := fun b o => who b o = none

theorem Dat.pres {who who':Who} {w w':World} (h:Pres who w who' w') {x:DV} {v:Value} (hd:Dat (Ro who) w x v):Dat (Ro who') w' x v:=
 hd.imp fun b o hb hs=>⟨h.ro b o (cell_lt hs) hb,(h.blk b (cell_lt hs)).cell (.inl hb)⟩
/-- The block of a slice that grows is left alone by a step that has not its cells: it keeps its size, its type. -/
theorem OwnS.pres {who who':Who} {w w':World} (h:Pres who w who' w') {p p':Nat→Nat→Prop} (hp: ∀ b o,b<w.heap.size→p b o→p' b o) {x:DV} {v:Value} (hd:OwnS p w x v):OwnS p' w' x v:=by
 unfold OwnS at hd ⊢;split
 ·rcases hd with rfl|⟨g,cap,cur,e,rfl,hg,h1,h2,h3,h0,h4⟩
  ·exact .inl rfl
  have hb:=h.blk g (heap_lt hg);rw[hg]at hb;obtain⟨c',hc',hs,_⟩:=hb;exact .inr ⟨g,cap,c',e,rfl,hc',h1,h2,hs.trans h3,h0,fun o ho=>hp g o (heap_lt hg) (h4 o ho)⟩
 trivial
theorem OwnA.pres {who who':Who} {w w':World} (h:Pres who w who' w') {p p':Nat→Nat→Nat→Prop} (hp: ∀ j b o,b<w.heap.size→p j b o→p' j b o) {x:DV} {v:Value} (hd:OwnA p w x v):OwnA p' w' x v:=by
 cases x with
 |tu cs=>exact fun vs hv j y u hy hu=>OwnS.pres h (hp j) (hd vs hv j y u hy hu)
 |v y=>exact OwnS.pres (x:= .v y) (v:=v) h (hp 0) hd
 |ag y=>exact OwnS.pres (x:= .ag y) (v:=v) h (hp 0) hd
 |sl a y z=>exact OwnS.pres (x:= .sl a y z) (v:=v) h (hp 0) hd
theorem OwnS.dis1 {p:Nat→Nat→Prop} {w:World} (x:DV) (v:Value):OwnS p w x.dis1 v:=by
 cases x<;>simp[DV.dis1,OwnS]
theorem OwnA.dis {p:Nat→Nat→Nat→Prop} {w:World} (x:DV) (v:Value):OwnA p w x.dis v:=by
 cases x with
 |tu cs=>
  intro vs hv j y u hy hu;rw[List.getElem?_map]at hy;cases h:cs[j]? with
  |none=>rw[h]at hy;simp at hy
  |some z=>rw[h]at hy;simp at hy;subst hy;exact OwnS.dis1 z u
 |_=>simp[DV.dis,OwnA,OwnS]
theorem Dat.dis1 {D:Nat→Nat→Prop} {w:World} {x:DV} {v:Value} (h:Dat D w x v):Dat D w x.dis1 v:=by
 cases h with
 |sl c a b cc d e=>exact .sl c a b cc d e
 |v h=>exact .v h
 |ag a b c=>exact .ag a b c
 |tu a b=>exact .tu a b
theorem Dat.dis {D:Nat→Nat→Prop} {w:World} {x:DV} {v:Value} (h:Dat D w x v):Dat D w x.dis v:=by
 cases h with
 |sl c a b cc d e=>exact .sl c a b cc d e
 |v h=>exact .v h
 |ag a b c=>exact .ag a b c
 |tu a b=>
  (refine .tu (by simpa using a) fun i x y hx hy=>?_);rw[List.getElem?_map]at hx;rename_i cs _;cases h:cs[i]? with
  |none=>rw[h]at hx;simp at hx
  |some z=>rw[h]at hx;simp at hx;subst hx;exact(b i z y h hy).dis1
/-- What a slot holds. -/
def AR (who : Who) (μ : Nat → Option Nat) (w : World) (p : Nat → Pl) : AV → Value → Prop
  | .d x, v => Dat (Ro who) w x v ∧ OwnA (fun j b o => who b o = some (p j)) w x v
  | .pt k off, v => ∃ b, μ k = some b ∧ v = .pointer (some ⟨b, off, none⟩)
  | .el cs, v => ∃ b o, v = .pointer (some ⟨b, o, none⟩) ∧ ∃ c : Nat → Value, ∀ q x, cs[q]? = some x → who b (o + q) = none ∧ w.cell? ⟨b, o + q, none⟩ = some (c q) ∧ (c q).oneCell' = true ∧ Dat (Ro who) w x (c q)
  | .un, _ => True

theorem AR.pres {who who':Who} {w w':World} {μ μ':Nat→Option Nat} (h:Pres who w who' w') {p p':Nat→Pl} {a:AV} {v:Value}
 (hp: ∀ j b o,b<w.heap.size→who b o=some (p j)→who' b o=some (p' j)) (hμ: ∀ k off,a= .pt k off→μ' k=μ k) (hd:AR who μ w p a v):AR who' μ' w' p' a v:=by
 cases a with
 |d x=>exact⟨hd.1.pres h,hd.2.pres h hp⟩
 |pt k off=>obtain⟨b,h1,h2⟩:=hd;exact⟨b,(hμ k off rfl).trans h1,h2⟩
 |el cs=>
  obtain⟨b,o,h1,c,h2⟩:=hd;refine⟨b,o,h1,c,fun q x hx=>?_⟩;obtain⟨a1,a2,a3,a4⟩:=h2 q x hx;have hlt:b<w.heap.size:=cell_lt (by rw[a2];rfl);exact⟨h.ro b _ hlt a1,((h.blk b hlt).cell (.inl a1)).trans a2,a3,a4.pres h⟩
 |un=>trivial
theorem AR.dis {who:Who} {μ:Nat→Option Nat} {w:World} {p p':Nat→Pl} {a:AV} {v:Value} (h:AR who μ w p a v):AR who μ w p' a.dis v:=by
 cases a with
 |d x=>exact⟨h.1.dis,OwnA.dis x v⟩
 |pt k off=>exact h
 |el cs=>exact h
 |un=>trivial
def ObjR (who : Who) (μ : Nat → Option Nat) (w : World) (k : Nat) (cs : List DV) : Prop :=
  ∃ b arr ty, μ k = some b ∧ w.heap[b]? = some (.cells arr ty (0, 0)) ∧ arr.size = cs.length ∧ (∀ y ∈ arr, y.oneCell' = true) ∧ (∀ o, who b o = some (.blk k)) ∧
    ∀ (j : Nat) x y, cs[j]? = some x → arr[j]? = some y → Dat (Ro who) w x y ∧ OwnS (fun b o => who b o = some (.cell k j)) w x y
def ORep (who : Who) (μ : Nat → Option Nat) (w : World) (ob : Ob) : Prop := ∀ k cs, ob[k]? = some (some cs) → ObjR who μ w k cs

/-- An object that a step leaves alone. -/
theorem ObjR.pres {who who':Who} {w w':World} {μ μ':Nat→Option Nat} (h:Pres who w who' w') {k k':Nat} {cs:List DV} (hμ:μ' k'=μ k)
 (hb: ∀ b,μ k=some b→w'.heap[b]? =w.heap[b]?∧ ∀ o,who b o=some (.blk k)→who' b o=some (.blk k'))
 (hc: ∀ j b o,b<w.heap.size→who b o=some (.cell k j)→who' b o=some (.cell k' j)) (hd:ObjR who μ w k cs):ObjR who' μ' w' k' cs:=by
 obtain⟨b,arr,ty,h1,h2,h3,h4,h5,h6⟩:=hd;exact⟨b,arr,ty,hμ.trans h1,(hb b h1).1.trans h2,h3,h4,fun o=>(hb b h1).2 o (h5 o),fun j x y hx hy=>⟨(h6 j x y hx hy).1.pres h,(h6 j x y hx hy).2.pres h (hc j)⟩⟩
/-- The state of a function on its way. -/
structure Inv (who : Who) (μ : Nat → Option Nat) (w : World) (N : Nat) (fr : Fr) (tmps : Array Value) (ob : Ob) : Prop where
  fresh : Fresh who w
  size : tmps.size = N
  slots : ∀ t, AR who μ w (.slot t) (fr t) (tmps.getD t undef)
  live : ∀ t k off, fr t = .pt k off → ∃ cs, ob[k]? = some (some cs)
  objs : ORep who μ w ob
end Go.Proofs.YtcfoebkbahpnaaaGreat.Ab
