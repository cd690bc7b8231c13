import Derived.WalkKit
import Derived.ProofKit
import Derived.OpenShut
import Derived.ShutString
import Derived.ChangeOld
import Derived.Below
import Derived.SizedLaws
import Derived.DataReads
import Derived.ReadAgain
import Derived.ChangeStays
import Derived.ChangeAt
import Derived.ChangeAt2
import Derived.Test.YtcfoebkbahpnaaaGreatZHc
import Derived.Test.YtcfoebkbahpnaaaGreatZHk
import Derived.Test.YtcfoebkbahpnaaaGreatZMa
set_option linter.unusedVariables false
set_option linter.unusedSimpArgs false
namespace Go.Proofs.YtcfoebkbahpnaaaGreat.Hd
open Go.RowKit Go.Proofs.YtcfoebkbahpnaaaGreatW.PrintWords Go.Proofs.YtcfoebkbahpnaaaGreatW.PrintLast
open Ab (DV AV Dat OwnA OwnS Pres Fresh AR ORep FunOK Ent EnvOK Enters RowsR slR Who Ro RW)
open Go.ChangeShapes Go.WideShapes Go.ChangeAt
section
variable {H : Type} {enc : TypeId × Value → H} {w : World} {base fuel : Nat} {spare : Nat → Bool} {held : Bool}
def Light' (P : Program) (t : TypeId) (x : DataW H) : Prop := ∀ m ∈ x.weights P t, m ≤ reachBytes
theorem weightsAll_mem {P:Program} {e:TypeId}: ∀ {l:List (DataW H)} {d:DataW H},d ∈ l→ ∀ m ∈ d.weights P e,m ∈ DataW.weightsAll P e l
 |d0::l,d,hd,m,hm=>by
  simp only[DataW.weightsAll,List.mem_append];rcases List.mem_cons.1 hd with rfl|hd
  ·exact .inl hm
  exact .inr (weightsAll_mem hd m hm)
theorem row_of_trodW {P:Program} {t e:TypeId} {α:Type} (d:Kd α) (z:α) (G:α→Prop) (ht:P.underlying t=some (.slice e)) (hz:P.cellsOf e=d.sz)
 (hK: ∀ (n:Nat) (cs:List Value) (y:DataW H × List MemPlace),cs.length=d.sz→DataW.trod enc P w base spare held n e cs=some y→Light' P e y.1→ ∃ p,d.K w p cs∧G p)
 {cs:List Value} {x:DataW H × List MemPlace} (h:DataW.trod enc P w base spare held fuel t cs=some x) (hw:Light' P t x.1):
 ∃ (A:Option Addr) (l:List α) (c:Nat),cs= [.slice A l.length c]∧l.length≤c∧d.C w A l.length l∧(∀ p ∈ l,G p)∧l.length*P.bytesOf e≤reachBytes:=by
 rcases DataW.trod_slice ht h with ⟨rfl,_⟩|⟨a,len,cap,elems,rest,n,_,rfl,rfl,hb,hlc,hcm,hel,hg,_,_⟩
 ·exact⟨none,[],0,rfl,Nat.le_refl _,⟨rfl,by simp,fun h=>absurd h (by simp)⟩,(fun p hp=>(by cases hp)),by simp⟩
 have key: ∀ i,i<len→ ∃ p:α,G p∧ ∃ c:List Value,c.length=d.sz∧d.K w p c∧ ∀ j u,c[j]? =some u→w.cell? (a.add (i*d.sz+j))=some u:=by
  intro i hi;have hgi:=hg i hi;obtain⟨y,hy⟩: ∃ y,elems[i]? =some y:=⟨_,List.getElem?_eq_getElem (by omega)⟩;rw[hy]at hgi;obtain⟨cs',hcs,htr⟩:=Option.bind_eq_some_iff.1 hgi;obtain⟨_,hl,hc⟩:=World.cells?_some hcs;rw[hz]at hl hc;have hym:y.1 ∈ elems.map (·.1):=List.mem_map.2 ⟨y,List.mem_of_getElem? hy,rfl⟩;obtain⟨p,hp,hG⟩:=hK n cs' y hl htr (fun m hm=>hw m (by
   simp only[DataW.weights,ht,List.mem_cons,List.mem_append]
   exact .inr (.inl (weightsAll_mem hym m hm))))
  refine⟨p,hG,cs',hl,hp,fun j u hu=>?_⟩;have hj:j<d.sz:=(by rw[← hl];exact(List.getElem?_eq_some_iff.1 hu).1);rw[← add_add,hc j hj];exact hu
 (let f:Nat→α:=fun i=>if h:i<len then Classical.choose (key i h)else z);have hf: ∀ i,i<len→G (f i)∧ ∃ c:List Value,c.length=d.sz∧d.K w (f i) c∧ ∀ j u,c[j]? =some u→w.cell? (a.add (i*d.sz+j))=some u:=by
  intro i hi;have:f i=Classical.choose (key i hi):=dif_pos hi;rw[this];exact Classical.choose_spec (key i hi)
 have hll:((List.range len).map f).length=len:=(by simp);refine⟨some a,(List.range len).map f,cap,by rw[hll],by rw[hll];exact hlc,⟨rfl,?_,fun _=>⟨a,rfl,?_⟩⟩,?_,?_⟩
 ·rw[hll];exact Nat.le_trans hlc hcm
 ·intro j p hj;rw[List.getElem?_map]at hj;obtain⟨i,hi,rfl⟩:=Option.map_eq_some_iff.1 hj;have hjl:j<len:=by
   have:=(List.getElem?_eq_some_iff.1 hi).1;simpa using this
  obtain rfl:i=j:=by
   rw[List.getElem?_range hjl]at hi;exact(Option.some.inj hi).symm
  obtain⟨_,c,h1,h2,h3⟩:=hf i hjl;exact⟨c,h1,h2,h3⟩
 ·intro p hp;obtain⟨i,hi,rfl⟩:=List.mem_map.1 hp;exact(hf i (List.mem_range.1 hi)).1
 rw[hll];have:=hw ((elems.length+rest.length)*P.bytesOf e) (by simp[DataW.weights,ht]);exact Nat.le_trans (Nat.mul_le_mul_right _ (by omega)) this
theorem fields_of {P:Program} {t:TypeId} {fs:Array Field} (ht:P.underlying t=some (.struct fs)) {cs:List Value} {x:DataW H × List MemPlace} (h:DataW.trod enc P w base spare held fuel t cs=some x) (hw:Light' P t x.1):
 ∀ (i:Nat) (f:Field),fs[i]? =some f→ ∃ n y,DataW.trod enc P w base spare held n f.type ((cs.drop f.offset).take (P.cellsOf f.type))=some y∧Light' P f.type y.1:=by
 obtain⟨xs,n,_,rfl,_,hlen,hf⟩:=DataW.trod_struct ht h;intro i f hi;have h1:=hf i f hi;have hil:i<xs.length:=(by rw[hlen];exact(Array.getElem?_eq_some_iff.1 hi).1);obtain⟨y,hy⟩: ∃ y,xs[i]? =some y:=⟨_,List.getElem?_eq_getElem hil⟩;rw[hy]at h1;refine⟨n,y,h1,fun m hm=>hw m ?_⟩;simp only[DataW.weights,ht];exact DataW.weights_mem_each (j:=i) (t:=f.type) (d:=y.1) (by simp[hi]) (by simp[hy]) m hm
theorem cells3:Tryz.prog.cellsOf 3=1:=by kernel_rfl
theorem cells4:Tryz.prog.cellsOf 4=1:=by kernel_rfl
theorem cells9:Tryz.prog.cellsOf 9=1:=by kernel_rfl
theorem cells37:Tryz.prog.cellsOf 37=1:=by kernel_rfl
theorem cells36:Tryz.prog.cellsOf 36=1:=by kernel_rfl
theorem cells38:Tryz.prog.cellsOf 38=1:=by kernel_rfl
theorem cells40:Tryz.prog.cellsOf 40=2:=by kernel_rfl
theorem cells41:Tryz.prog.cellsOf 41=1:=by kernel_rfl
theorem cells43:Tryz.prog.cellsOf 43=7:=by kernel_rfl
theorem cells46:Tryz.prog.cellsOf 46=4:=by kernel_rfl
theorem cells100:Tryz.prog.cellsOf 100=12:=by kernel_rfl
theorem cells72:Tryz.prog.cellsOf 72=1:=by kernel_rfl
theorem cells98:Tryz.prog.cellsOf 98=7:=by kernel_rfl
def strG (s : ByteArray) : Prop := s.size ≤ reachBytes
theorem str_of {n:Nat} {cs:List Value} {y:DataW H × List MemPlace} (h:DataW.trod enc Tryz.prog w base spare held n 9 cs=some y) (hw:Light' Tryz.prog 9 y.1): ∃ s:ByteArray,cs= [.string s]∧strG s:=by
 obtain⟨s,rfl,rfl,_⟩:=DataW.trod_string Tryz.underlying9 h;refine⟨s,rfl,?_⟩;have:=hw s.data.toList.length (by simp[DataW.weights]);rw[Array.length_toList]at this;exact this
theorem string_K (n:Nat) (cs:List Value) (y:DataW H × List MemPlace) (_:cs.length=Kd.string.sz) (h:DataW.trod enc Tryz.prog w base spare held n 9 cs=some y) (hw:Light' Tryz.prog 9 y.1): ∃ p,Kd.string.K w p cs∧strG p:=by
 obtain⟨s,rfl,hs⟩:=str_of h hw;exact⟨s,rfl,hs⟩
def termG (t : S46) : Prop := strG t.f1 ∧ strG t.f2 ∧ strG t.f3
theorem term_K (n:Nat) (cs:List Value) (y:DataW H × List MemPlace) (hl:cs.length=4) (h:DataW.trod enc Tryz.prog w base spare held n 46 cs=some y) (hw:Light' Tryz.prog 46 y.1): ∃ p:S46,cs= [.int .i64 p.f0,.string p.f1,.string p.f2,.string p.f3]∧termG p:=by
 obtain⟨v0,v1,v2,v3,rfl⟩: ∃ v0 v1 v2 v3,cs= [v0,v1,v2,v3]:=by
  match cs,hl with
  | [v0,v1,v2,v3],_=>exact⟨v0,v1,v2,v3,rfl⟩
 have hf:=fields_of Tryz.underlying46 h hw;obtain⟨n0,y0,h0,_⟩:=hf 0 _ rfl;obtain⟨n1,y1,h1,w1⟩:=hf 1 _ rfl;obtain⟨n2,y2,h2,w2⟩:=hf 2 _ rfl;obtain⟨n3,y3,h3,w3⟩:=hf 3 _ rfl;simp only[List.getElem_toArray,List.getElem_cons_zero,List.getElem_cons_succ]at h0 h1 h2 h3;simp only[cells3,cells9,List.drop_zero,List.drop_succ_cons,List.take_succ_cons,List.take_zero]at h0 h1 h2 h3;obtain⟨k0,e0,_⟩:=DataW.trod_int Tryz.underlying3 h0;obtain⟨s1,e1,g1⟩:=str_of h1 w1;obtain⟨s2,e2,g2⟩:=str_of h2 w2;obtain⟨s3,e3,g3⟩:=str_of h3 w3;simp only[List.cons.injEq,and_true]at e0 e1 e2 e3;subst e0 e1 e2 e3;exact⟨⟨k0,s1,s2,s3⟩,rfl,g1,g2,g3⟩
theorem term_KK (n:Nat) (cs:List Value) (y:DataW H × List MemPlace) (hl:cs.length=k46.sz) (h:DataW.trod enc Tryz.prog w base spare held n 46 cs=some y) (hw:Light' Tryz.prog 46 y.1): ∃ p,k46.K w p cs∧termG p:=by
 obtain⟨p,rfl,hp⟩:=term_K n cs y hl h hw;exact⟨p,k46_mk w p,hp⟩
def triG (t : S100) : Prop := termG t.f0 ∧ termG t.f1 ∧ termG t.f2
theorem tri_K (n:Nat) (cs:List Value) (y:DataW H × List MemPlace) (hl:cs.length=k100.sz) (h:DataW.trod enc Tryz.prog w base spare held n 100 cs=some y) (hw:Light' Tryz.prog 100 y.1): ∃ p,k100.K w p cs∧triG p:=by
 obtain⟨v0,v1,v2,v3,v4,v5,v6,v7,v8,v9,v10,v11,rfl⟩: ∃ v0 v1 v2 v3 v4 v5 v6 v7 v8 v9 v10 v11,cs= [v0,v1,v2,v3,v4,v5,v6,v7,v8,v9,v10,v11]:=by
  match cs,hl with
  | [v0,v1,v2,v3,v4,v5,v6,v7,v8,v9,v10,v11],_=>exact⟨v0,v1,v2,v3,v4,v5,v6,v7,v8,v9,v10,v11,rfl⟩
 have hf:=fields_of Tryz.underlying100 h hw;obtain⟨n0,y0,h0,w0⟩:=hf 0 _ rfl;obtain⟨n1,y1,h1,w1⟩:=hf 1 _ rfl;obtain⟨n2,y2,h2,w2⟩:=hf 2 _ rfl;simp only[List.getElem_toArray,List.getElem_cons_zero,List.getElem_cons_succ]at h0 h1 h2;simp only[cells46,List.drop_zero,List.drop_succ_cons,List.take_succ_cons,List.take_zero]at h0 h1 h2;obtain⟨p0,e0,g0⟩:=term_K n0 _ y0 rfl h0 w0;obtain⟨p1,e1,g1⟩:=term_K n1 _ y1 rfl h1 w1;obtain⟨p2,e2,g2⟩:=term_K n2 _ y2 rfl h2 w2;simp only[List.cons.injEq,and_true]at e0 e1 e2;obtain⟨rfl,rfl,rfl,rfl⟩:=e0;obtain⟨rfl,rfl,rfl,rfl⟩:=e1;obtain⟨rfl,rfl,rfl,rfl⟩:=e2;exact⟨⟨p0,p1,p2⟩,k100_mk w _,g0,g1,g2⟩
def partG (p : S98) : Prop := termG p.f1 ∧ strG p.f2
theorem part_K (n:Nat) (cs:List Value) (y:DataW H × List MemPlace) (hl:cs.length=k98.sz) (h:DataW.trod enc Tryz.prog w base spare held n 98 cs=some y) (hw:Light' Tryz.prog 98 y.1): ∃ p,k98.K w p cs∧partG p:=by
 obtain⟨v0,v1,v2,v3,v4,v5,v6,rfl⟩: ∃ v0 v1 v2 v3 v4 v5 v6,cs= [v0,v1,v2,v3,v4,v5,v6]:=by
  match cs,hl with
  | [v0,v1,v2,v3,v4,v5,v6],_=>exact⟨v0,v1,v2,v3,v4,v5,v6,rfl⟩
 have hf:=fields_of Tryz.underlying98 h hw;obtain⟨n0,y0,h0,w0⟩:=hf 0 _ rfl;obtain⟨n1,y1,h1,w1⟩:=hf 1 _ rfl;obtain⟨n2,y2,h2,w2⟩:=hf 2 _ rfl;obtain⟨n3,y3,h3,w3⟩:=hf 3 _ rfl;simp only[List.getElem_toArray,List.getElem_cons_zero,List.getElem_cons_succ]at h0 h1 h2 h3;simp only[cells3,cells9,cells46,List.drop_zero,List.drop_succ_cons,List.take_succ_cons,List.take_zero]at h0 h1 h2 h3;obtain⟨k0,e0,_⟩:=DataW.trod_int Tryz.underlying3 h0;obtain⟨p1,e1,g1⟩:=term_K n1 _ y1 rfl h1 w1;obtain⟨s2,e2,g2⟩:=str_of h2 w2;obtain⟨k3,e3,_⟩:=DataW.trod_int Tryz.underlying3 h3;simp only[List.cons.injEq,and_true]at e0 e1 e2 e3;obtain⟨rfl,rfl,rfl,rfl⟩:=e1;subst e0 e2 e3;exact⟨⟨k0,p1,s2,k3⟩,k98_mk w _,g1,g2⟩
theorem strs_of {cs:List Value} {x:DataW H × List MemPlace} (h:DataW.trod enc Tryz.prog w base spare held fuel 37 cs=some x) (hw:Light' Tryz.prog 37 x.1): ∃ (A:Option Addr) (l:List ByteArray) (c:Nat),cs= [.slice A l.length c]∧l.length≤c∧Kd.C Kd.string w A l.length l∧(∀ p ∈ l,strG p)∧l.length*Tryz.prog.bytesOf 9≤reachBytes:=
 row_of_trodW Kd.string ByteArray.empty strG Tryz.underlying37 cells9 string_K h hw
theorem terms_of {cs:List Value} {x:DataW H × List MemPlace} (h:DataW.trod enc Tryz.prog w base spare held fuel 72 cs=some x) (hw:Light' Tryz.prog 72 x.1): ∃ (A:Option Addr) (l:List S46) (c:Nat),cs= [.slice A l.length c]∧l.length≤c∧Kd.C k46 w A l.length l∧(∀ p ∈ l,termG p)∧l.length*Tryz.prog.bytesOf 46≤reachBytes:=
 row_of_trodW k46 z46 termG Tryz.underlying72 cells46 term_KK h hw
def rowG (l : List S46) : Prop := (∀ p ∈ l, termG p) ∧ l.length * Tryz.prog.bytesOf 46 ≤ reachBytes
theorem rows_of {cs:List Value} {x:DataW H × List MemPlace} (h:DataW.trod enc Tryz.prog w base spare held fuel 38 cs=some x) (hw:Light' Tryz.prog 38 x.1): ∃ (A:Option Addr) (l:List (List S46)) (c:Nat),cs= [.slice A l.length c]∧l.length≤c∧Kd.C (Kd.slice 46 k46) w A l.length l∧(∀ p ∈ l,rowG p)∧l.length*Tryz.prog.bytesOf 72≤reachBytes:=
 row_of_trodW (Kd.slice 46 k46) [] rowG Tryz.underlying38 cells72 (fun n cs y _ h hw=>by
  obtain⟨A,l,c,rfl,h1,h2,h3,h4⟩:=terms_of h hw;exact⟨l,⟨A,c,rfl,h1,h2⟩,h3,h4⟩) h hw
theorem tris_of {cs:List Value} {x:DataW H × List MemPlace} (h:DataW.trod enc Tryz.prog w base spare held fuel 36 cs=some x) (hw:Light' Tryz.prog 36 x.1): ∃ (A:Option Addr) (l:List S100) (c:Nat),cs= [.slice A l.length c]∧l.length≤c∧Kd.C k100 w A l.length l∧(∀ p ∈ l,triG p)∧l.length*Tryz.prog.bytesOf 100≤reachBytes:=
 row_of_trodW k100 z100 triG Tryz.underlying36 cells100 tri_K h hw
theorem parts_of {cs:List Value} {x:DataW H × List MemPlace} (h:DataW.trod enc Tryz.prog w base spare held fuel 41 cs=some x) (hw:Light' Tryz.prog 41 x.1): ∃ (A:Option Addr) (l:List S98) (c:Nat),cs= [.slice A l.length c]∧l.length≤c∧Kd.C k98 w A l.length l∧(∀ p ∈ l,partG p)∧l.length*Tryz.prog.bytesOf 98≤reachBytes:=
 row_of_trodW k98 z98 partG Tryz.underlying41 cells98 part_K h hw
theorem bytes9:Tryz.prog.bytesOf 9=16:=by kernel_rfl
theorem bytes43:Tryz.prog.bytesOf 43=128:=by kernel_rfl
theorem bytes46:Tryz.prog.bytesOf 46=56:=by kernel_rfl
theorem bytes100:Tryz.prog.bytesOf 100=168:=by kernel_rfl
theorem bytes72:Tryz.prog.bytesOf 72=24:=by kernel_rfl
theorem bytes98:Tryz.prog.bytesOf 98=88:=by kernel_rfl
/-- what a reading's weights say of an operation -/
def opG (o : S43) : Prop := (o.f1.length * 168 ≤ reachBytes ∧ ∀ t ∈ o.f1, triG t) ∧ (o.f2.f0.length * 16 ≤ reachBytes ∧ ∀ s ∈ o.f2.f0, strG s) ∧ (o.f2.f1.length * 24 ≤ reachBytes ∧ ∀ r ∈ o.f2.f1, rowG r) ∧ (o.f3.length * 88 ≤ reachBytes ∧ ∀ p ∈ o.f3, partG p) ∧ strG o.f4
theorem op_K (n:Nat) (cs:List Value) (y:DataW H × List MemPlace) (hl:cs.length=k43.sz) (h:DataW.trod enc Tryz.prog w base spare held n 43 cs=some y) (hw:Light' Tryz.prog 43 y.1): ∃ p,k43.K w p cs∧opG p:=by
 obtain⟨v0,v1,v2,v3,v4,v5,v6,rfl⟩: ∃ v0 v1 v2 v3 v4 v5 v6,cs= [v0,v1,v2,v3,v4,v5,v6]:=by
  match cs,hl with
  | [v0,v1,v2,v3,v4,v5,v6],_=>exact⟨v0,v1,v2,v3,v4,v5,v6,rfl⟩
 have hf:=fields_of Tryz.underlying43 h hw;obtain⟨n0,y0,h0,w0⟩:=hf 0 _ rfl;obtain⟨n1,y1,h1,w1⟩:=hf 1 _ rfl;obtain⟨n2,y2,h2,w2⟩:=hf 2 _ rfl;obtain⟨n3,y3,h3,w3⟩:=hf 3 _ rfl;obtain⟨n4,y4,h4,w4⟩:=hf 4 _ rfl;obtain⟨n5,y5,h5,w5⟩:=hf 5 _ rfl;simp only[List.getElem_toArray,List.getElem_cons_zero,List.getElem_cons_succ]at h0 h1 h2 h3 h4 h5;simp only[cells3,cells36,cells40,cells41,cells9,cells4,List.drop_zero,List.drop_succ_cons,List.take_succ_cons,List.take_zero]at h0 h1 h2 h3 h4 h5;have hf2:=fields_of Tryz.underlying40 h2 w2;obtain⟨m0,x0,i0,u0⟩:=hf2 0 _ rfl;obtain⟨m1,x1,i1,u1⟩:=hf2 1 _ rfl;simp only[List.getElem_toArray,List.getElem_cons_zero,List.getElem_cons_succ]at i0 i1;simp only[cells37,cells38,List.drop_zero,List.drop_succ_cons,List.take_succ_cons,List.take_zero]at i0 i1;obtain⟨k0,e0,_⟩:=DataW.trod_int Tryz.underlying3 h0;obtain⟨A1,l1,c1,e1,a1,C1,g1,b1⟩:=tris_of h1 w1;obtain⟨A2,l2,c2,e2,a2,C2,g2,b2⟩:=strs_of i0 u0;obtain⟨A3,l3,c3,e3,a3,C3,g3,b3⟩:=rows_of i1 u1;obtain⟨A4,l4,c4,e4,a4,C4,g4,b4⟩:=parts_of h3 w3;obtain⟨s5,e5,g5⟩:=str_of h4 w4;obtain⟨b6,e6,_⟩:=DataW.trod_bool Tryz.underlying4 h5;simp only[List.cons.injEq,and_true]at e0 e1 e2 e3 e4 e5 e6;subst e0 e1 e2 e3 e4 e5 e6;rw[bytes100]at b1;rw[bytes9]at b2;rw[bytes72]at b3;rw[bytes98]at b4;exact⟨⟨k0,l1,⟨l2,l3⟩,l4,s5,b6⟩,k43_mk w _ a1 C1 a2 C2 a3 C3 a4 C4,⟨b1,g1⟩,⟨b2,g2⟩,⟨b3,g3⟩,⟨b4,g4⟩,g5⟩
theorem code_of {cs:List Value} {x:DataW H × List MemPlace} (h:DataW.trod enc Tryz.prog w base spare held fuel 22 cs=some x) (hw:Light' Tryz.prog 22 x.1): ∃ (A:Option Addr) (l:List S43) (c:Nat),cs= [.slice A l.length c]∧l.length≤c∧Kd.C k43 w A l.length l∧(∀ p ∈ l,opG p)∧l.length*Tryz.prog.bytesOf 43≤reachBytes:=
 row_of_trodW k43 z43 opG Tryz.underlying22 cells43 op_K h hw
theorem light_each {P:Program} {ts:List TypeId} {ds:List (DataW H)} (h:(DataW.weightsEach P ts ds).all (·≤reachBytes)=true) {j:Nat} {t:TypeId} {d:DataW H} (ht:ts[j]? =some t) (hd:ds[j]? =some d):Light' P t d:=fun m hm=>by
 have:=List.all_eq_true.1 h m (DataW.weights_mem_each ht hd m hm);simpa using this
theorem kids:Kids Tryz.prog (·<Tryz.prog.types.size):=kids_rows (by kernel_rfl) (by kernel_rfl)
theorem full: ∀ t e,t<Tryz.prog.types.size→Tryz.prog.underlying t=some (.slice e)→0<Tryz.prog.cellsOf e:=slices_full_of Tryz.prog (by kernel_rfl)
/-- what was read reads so behind the call -/
theorem later_ {w':World} {t:TypeId} {v:Value} {d:DataW H} {p:List MemPlace} (ht:t<Tryz.prog.types.size) (hb:Below w.heap.size w w') (h:DataW.Trod enc Tryz.prog w base (fun _=>true) true t v d p):DataW.Trod enc Tryz.prog w' base (fun b=>decide (b<w.heap.size)) true t v d p:=by
 obtain⟨fuel,hf⟩:=h;have hlt:=DataW.trod_lt _ _ _ _ hf;exact⟨fuel,DataW.trod_stays kids (fun {t e}=>full t e) (fun h=>by cases h) ht hf (fun q hq=>hb.same (hlt q hq)) (fun q hq=>decide_eq_true (hlt q hq))⟩
end
theorem Op_D {w:World} {x:Ab.OpS} {vs:List Value} (h:k43.K w x vs):DL (fun _ _=>True) w (Ab.eOp x) vs:=by
 obtain⟨A1,c1,A2,c2,A3,c3,A4,c4,rfl,l1,g1,l2,g2,l3,g3,l4,g4⟩:=k43_open h;exact .cons (.v rfl) (.cons (tris_D l1 g1) (.cons (strs_D l2 g2) (.cons (rows_D l3 g3) (.cons (parts_D l4 g4) (.cons (.v rfl) (.cons (.v rfl) .nil))))))
theorem ops_D {w:World} {A:Option Addr} {c:Nat} {l:List Ab.OpS} (hc:l.length≤c) (h:k43.C w A l.length l):Dat (fun _ _=>True) w (.sl false 7 (l.map Ab.eOp)) (.slice A l.length c):=row_mk rfl (by decide) (fun _=>rfl) (fun x _ vs h=>Op_D h) hc h
end Go.Proofs.YtcfoebkbahpnaaaGreat.Hd
