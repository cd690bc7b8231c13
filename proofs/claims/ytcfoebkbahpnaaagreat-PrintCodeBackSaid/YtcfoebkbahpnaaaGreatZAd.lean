import Derived.OrdersHeld
import Derived.Deep.RegionHeld3
import Derived.Laws.BitsLemmas
import Derived.RowKit
import Derived.Test.YtcfoebkbahpnaaaGreatZAb
-- PRINTED BY print.sh 35421559b90ae4d0a3588c463048766b98c2df88dd9212a6774a882060cdf62d: not written by this session
/-
  PRINTED WORDS, second file: A REGION THAT DRAWS ITS ORDER, WALKED BY HAND, where its last store writes what its own loads read ('x.f = append(x.f, f(i))'). Plain theorems; no macro, no elab. A claim may hold it (turn the namespace's name).
  A load may be taken first in every world that meets S; behind the operations of ds nothing is shown; sound because each of ds waits for what is taken (Region.lastB). The kernel checks it.
  By an AI agent of Go's test side, Mon Nov 16 2026. No person has read it.
-/
namespace Go.Proofs.YtcfoebkbahpnaaaGreatW.PrintLast

section
variable {P : Program} {ops : Array Oper} {Q : Exit → Act → World → Prop} {md : Region.Mode} {S : World → Prop} {ds : List Nat}

/-- Operation d waits for operation i, by a chain of at most 'fuel' edges. -/
def Region.reachB (md : Region.Mode) (ops : Array Oper) (i : Nat) : Nat → Nat → Bool
  | 0, _ => false
  | fuel + 1, d => match ops[d]? with
    | some o => o.after.any fun e => Region.binds md e && (e.on == i || Region.reachB md ops i fuel e.on)
    | none => false

/-- Each of ds that has not come up yet waits for number i. -/
def Region.lastB (md : Region.Mode) (ops : Array Oper) (listed : Array Bool) (ds : List Nat) (i : Nat) : Bool :=
  ds.all fun d => listed.getD d true || Region.reachB md ops i ops.size d

def ListedClosed (md : Region.Mode) (ops : Array Oper) (listed : Array Bool) : Prop :=
  ∀ j oj, ops[j]? = some oj → listed.getD j false = true → ∀ e ∈ oj.after, Region.binds md e = true → listed.getD e.on false = true

theorem ListedClosed.set {listed:Array Bool} {i:Nat} (h:ListedClosed md ops listed) (hi:i ∈ Region.ready md ops listed):ListedClosed md ops (listed.setIfInBounds i true):=by
 obtain⟨_,oi,hoi,hall⟩:=mem_ready.1 hi;intro j oj hj hl e he hb;by_cases hij:i=j
 ·subst hij;have:oj=oi:=Option.some.inj (hj.symm.trans hoi);subst this;exact getD_set_true (hall e he hb)
 rw[getD_set_ne false hij]at hl;exact getD_set_true (h j oj hj hl e he hb)
/-- Whatever order is picked from here on, AND 'S' HOLDS BEHIND EVERY OPERATION THAT IS CARRIED OUT, those of ds apart. -/
def wpAnyLast (P : Program) (md : Region.Mode) (ops : Array Oper) (Q : Exit → Act → World → Prop) (S : World → Prop) (ds : List Nat) : Nat → Array Bool → Act → World → Prop
  | 0, listed, a, w => Region.ready md ops listed = [] ∧ Q .normal a w
  | fuel + 1, listed, a, w =>
    (Region.ready md ops listed = [] → Q .normal a w) ∧
    ∀ i ∈ Region.ready md ops listed, wpOp P ops Q i (fun a' w' => (i ∉ ds → S w → S w') ∧ wpAnyLast P md ops Q S ds fuel (listed.setIfInBounds i true) a' w') a w

theorem wpAnyLast_all {rs:List Nat} {fuel:Nat} {listed:Array Bool} {a:Act} {w:World} (hr:Region.ready md ops listed=rs) (hne:rs≠ [])
 (h: ∀ i ∈ rs,wpOp P ops Q i (fun a' w'=>(i ∉ ds→S w→S w')∧wpAnyLast P md ops Q S ds fuel (listed.setIfInBounds i true) a' w') a w):wpAnyLast P md ops Q S ds (fuel+1) listed a w:=
 ⟨fun h0=>absurd (hr ▸ h0) hne,hr ▸ h⟩
end
section
variable {P:Program} {ops:Array Oper} {Q:Exit→Act→World→Prop} {md:Region.Mode} {S:World→Prop} {ds:List Nat}
def AllReadyL (P : Program) (md : Region.Mode) (ops : Array Oper) (Q : Exit → Act → World → Prop) (S : World → Prop) (ds : List Nat) (fuel : Nat) (listed : Array Bool) (a : Act) (w : World) (rs : List Nat) : Prop :=
  ∀ i ∈ rs, wpOp P ops Q i (fun a' w' => (i ∉ ds → S w → S w') ∧ wpAnyLast P md ops Q S ds fuel (listed.setIfInBounds i true) a' w') a w
theorem AllReadyL.nil {fuel:Nat} {listed:Array Bool} {a:Act} {w:World}:AllReadyL P md ops Q S ds fuel listed a w []:=fun _ h=>by cases h
theorem AllReadyL.cons {fuel:Nat} {listed:Array Bool} {a:Act} {w:World} {i:Nat} {o:Oper} {rs:List Nat} (ho:ops[i]? =some o) (hd:i ∉ ds)
 (h: ∀ K':Act→World→Prop,Shut (∀ a w,S w→(S w→wpAnyLast P md ops Q S ds fuel (listed.setIfInBounds i true) a w)→K' a w)→if Region.wanted o (yielded ops a.tmps)=true then Oper.wp P o a w K' Q else K' (a.put o.dst undef) w)
 (hs:AllReadyL P md ops Q S ds fuel listed a w rs):AllReadyL P md ops Q S ds fuel listed a w (i::rs):=fun j hj=>by
 rcases List.mem_cons.1 hj with rfl|hj
 ·exact wpOp_step ho (fun K' hK=>h K' (fun a w hS hW=>hK a w ⟨fun _ _=>hS,hW hS⟩))
 exact hs j hj
theorem wpAnyLast_ready {rs:List Nat} {fuel:Nat} {listed:Array Bool} {a:Act} {w:World} (hr:Region.ready md ops listed=rs) (hne:rs≠ [])
 (h:AllReadyL P md ops Q S ds fuel listed a w rs):wpAnyLast P md ops Q S ds (fuel+1) listed a w:=wpAnyLast_all hr hne h
def readyB (md : Region.Mode) (ops : Array Oper) (l l' : Array Bool) (i : Nat) : Bool := (Region.ready md ops l == [i]) && (l.setIfInBounds i true == l')
/-- One operation alone may come up now (a call, a build, an append ..): it is run, S is shown behind it. -/
theorem one_ {i:Nat} {N:Option Tmp} {oi:Oper} {fuel:Nat} {l:Array Bool} {a:Act} {w:World} (l':Array Bool) (hi:ops[i]? =some oi) (hN:oi.dst=N) (hc:readyB md ops l l' i=true) (hd:i ∉ ds)
 (h: ∀ K:Act→World→Prop,Shut (∀ a' w',S w'→(S w'→wpAnyLast P md ops Q S ds fuel l' a' w')→K a' w')→if Region.wanted oi (yielded ops a.tmps)=true then Oper.wp P oi a w K Q else K (a.put N undef) w):
 wpAnyLast P md ops Q S ds (fuel+1) l a w:=by
 subst hN;simp only[readyB,Bool.and_eq_true,beq_iff_eq]at hc;obtain⟨h1,h2⟩:=hc;subst h2;exact wpAnyLast_ready h1 (by simp) (AllReadyL.cons hi hd (fun K hK=>h K hK) AllReadyL.nil)
/-! ### Several operations that write or call may come up: each order is walked, what follows is shown once (join_) -/
theorem two_ {i j:Nat} {Ni Nj:Option Tmp} {oi oj:Oper} {fuel:Nat} {l:Array Bool} {a:Act} {w:World} (li lj:Array Bool) (hi:ops[i]? =some oi) (hj:ops[j]? =some oj) (hNi:oi.dst=Ni) (hNj:oj.dst=Nj)
 (hc:(Region.ready md ops l== [i,j] && l.setIfInBounds i true==li && l.setIfInBounds j true==lj)=true) (hdi:i ∉ ds) (hdj:j ∉ ds)
 (h1: ∀ K:Act→World→Prop,Shut (∀ a' w',S w'→(S w'→wpAnyLast P md ops Q S ds fuel li a' w')→K a' w')→if Region.wanted oi (yielded ops a.tmps)=true then Oper.wp P oi a w K Q else K (a.put Ni undef) w)
 (h2: ∀ K:Act→World→Prop,Shut (∀ a' w',S w'→(S w'→wpAnyLast P md ops Q S ds fuel lj a' w')→K a' w')→if Region.wanted oj (yielded ops a.tmps)=true then Oper.wp P oj a w K Q else K (a.put Nj undef) w):
 wpAnyLast P md ops Q S ds (fuel+1) l a w:=by
 subst hNi;subst hNj;simp only[Bool.and_eq_true,beq_iff_eq]at hc;obtain⟨⟨h3,h4⟩,h5⟩:=hc;subst h4;subst h5;exact wpAnyLast_ready h3 (by simp) (AllReadyL.cons hi hdi (fun K hK=>h1 K hK) (AllReadyL.cons hj hdj (fun K hK=>h2 K hK) AllReadyL.nil))
theorem three_ {i j k:Nat} {Ni Nj Nk:Option Tmp} {oi oj ok:Oper} {fuel:Nat} {l:Array Bool} {a:Act} {w:World} (li lj lk:Array Bool) (hi:ops[i]? =some oi) (hj:ops[j]? =some oj) (hk:ops[k]? =some ok) (hNi:oi.dst=Ni) (hNj:oj.dst=Nj) (hNk:ok.dst=Nk)
 (hc:(Region.ready md ops l== [i,j,k] && l.setIfInBounds i true==li && l.setIfInBounds j true==lj && l.setIfInBounds k true==lk)=true) (hdi:i ∉ ds) (hdj:j ∉ ds) (hdk:k ∉ ds)
 (h1: ∀ K:Act→World→Prop,Shut (∀ a' w',S w'→(S w'→wpAnyLast P md ops Q S ds fuel li a' w')→K a' w')→if Region.wanted oi (yielded ops a.tmps)=true then Oper.wp P oi a w K Q else K (a.put Ni undef) w)
 (h2: ∀ K:Act→World→Prop,Shut (∀ a' w',S w'→(S w'→wpAnyLast P md ops Q S ds fuel lj a' w')→K a' w')→if Region.wanted oj (yielded ops a.tmps)=true then Oper.wp P oj a w K Q else K (a.put Nj undef) w)
 (h3: ∀ K:Act→World→Prop,Shut (∀ a' w',S w'→(S w'→wpAnyLast P md ops Q S ds fuel lk a' w')→K a' w')→if Region.wanted ok (yielded ops a.tmps)=true then Oper.wp P ok a w K Q else K (a.put Nk undef) w):
 wpAnyLast P md ops Q S ds (fuel+1) l a w:=by
 subst hNi;subst hNj;subst hNk;simp only[Bool.and_eq_true,beq_iff_eq]at hc;obtain⟨⟨⟨h4,h5⟩,h6⟩,h7⟩:=hc;subst h5;subst h6;subst h7;exact wpAnyLast_ready h4 (by simp) (AllReadyL.cons hi hdi (fun K hK=>h1 K hK) (AllReadyL.cons hj hdj (fun K hK=>h2 K hK) (AllReadyL.cons hk hdk (fun K hK=>h3 K hK) AllReadyL.nil)))
/-- The act with some destinations filled. -/
def putAll : Act → List (Tmp × Value) → Act
  | a, [] => a
  | a, (n, v) :: r => putAll (a.put (some n) v) r
/-- What follows, once: s the values that the orders leave, F what is known of them and of the world. -/
theorem join_ {σ:Type} {fuel:Nat} {l:Array Bool} {a:Act} {w:World} (fuel':Nat) (l':Array Bool) (ns:σ→List (Tmp × Value)) (F:σ→World→Prop)
 (hcont: ∀ s w',F s w'→wpAnyLast P md ops Q S ds fuel' l' (putAll a (ns s)) w')
 (h:(∀ s w',F s w'→wpAnyLast P md ops Q S ds fuel' l' (putAll a (ns s)) w')→wpAnyLast P md ops Q S ds fuel l a w):wpAnyLast P md ops Q S ds fuel l a w:=h hcont
theorem i64_w (n:Int):IntKind.i64.wrap n=Go.RowKit.wrap64 n:=by unfold Go.RowKit.wrap64;exact IntKind.wrap_i64 n
end
end Go.Proofs.YtcfoebkbahpnaaaGreatW.PrintLast

/- What the operations on values without memory say of the program's own. -/
set_option linter.unusedVariables false
set_option linter.unusedSimpArgs false
namespace Go.Proofs.YtcfoebkbahpnaaaGreat.Ab
open Go

theorem bif_some {α:Type} {b:Bool} {x:Option α} {y:α} (h:(bif b then x else none)=some y):b=true∧x=some y:=by
 cases b<;>simp_all
section
variable {P:Program} {D:Nat→Nat→Prop} {w:World}
/-- Cells of an array of values. -/
def CV (D : Nat → Nat → Prop) (w : World) (cs : List DV) (vs : List Value) : Prop :=
  vs.length = cs.length ∧ (∀ y ∈ vs, y.oneCell' = true) ∧ ∀ (i : Nat) (x : DV) (y : Value), cs[i]? = some x → vs[i]? = some y → Dat D w x y
theorem Dat.toCV {cs:List DV} {arr:Array Value} (h:Dat D w (.ag cs) (.agg arr)):CV D w cs arr.toList:=by
 cases h with
 |ag hl ho h=>exact⟨by simpa using hl,fun y hy=>ho y (by simpa using hy),fun i x y hx hy=>h i x y hx (by simpa using hy)⟩
theorem CV.toDat {cs:List DV} {arr:Array Value} (h:CV D w cs arr.toList):Dat D w (.ag cs) (.agg arr):=
 .ag (by simpa using h.1) (fun y hy=>h.2.1 y (by simpa using hy)) fun i x y hx hy=>h.2.2 i x y hx (by simpa using hy)
theorem Dat.ag_inv {cs:List DV} {v:Value} (h:Dat D w (.ag cs) v): ∃ arr:Array Value,v= .agg arr∧CV D w cs arr.toList:=by
 cases h with
 |ag hl ho h=>exact⟨_,rfl,Dat.toCV (.ag hl ho h)⟩
theorem CV.drop {cs:List DV} {vs:List Value} (h:CV D w cs vs) (n:Nat):CV D w (cs.drop n) (vs.drop n):=
 ⟨by simp[h.1],fun y hy=>h.2.1 y (List.mem_of_mem_drop hy),fun i x y hx hy=>h.2.2 (n+i) x y (by simpa [List.getElem?_drop]using hx) (by simpa [List.getElem?_drop]using hy)⟩
theorem CV.take {cs:List DV} {vs:List Value} (h:CV D w cs vs) (n:Nat):CV D w (cs.take n) (vs.take n):=
 ⟨by simp[h.1],fun y hy=>h.2.1 y (List.mem_of_mem_take hy),fun i x y hx hy=>by
  rw[List.getElem?_take]at hx hy;split at hx
  ·rename_i hi;rw[if_pos hi]at hy;exact h.2.2 i x y hx hy
  cases hx⟩
theorem CV.dis1 {cs:List DV} {vs:List Value} (h:CV D w cs vs):CV D w (cs.map DV.dis1) vs:=
 ⟨by simp[h.1],h.2.1,fun i x y hx hy=>by
  rw[List.getElem?_map]at hx;cases he:cs[i]? with
  |none=>rw[he]at hx;simp at hx
  |some z=>rw[he]at hx;simp at hx;subst hx;exact(h.2.2 i z y he hy).dis1⟩
theorem CV.append {cs ds:List DV} {vs us:List Value} (h:CV D w cs vs) (k:CV D w ds us):CV D w (cs++ds) (vs++us):=
 ⟨by simp[h.1,k.1],fun y hy=>(List.mem_append.1 hy).elim (h.2.1 y) (k.2.1 y),fun i x y hx hy=>by
  rw[List.getElem?_append]at hx hy;split at hx
  ·rename_i hi;rw[if_pos (by rw[h.1];exact hi)]at hy;exact h.2.2 i x y hx hy
  rename_i hi;rw[if_neg (by rw[h.1];exact hi)]at hy;rw[h.1]at hy;exact k.2.2 _ x y hx hy⟩
theorem CV.nil:CV D w [] []:=by refine⟨rfl,?_,?_⟩<;>intros<;>simp_all
theorem CV.cons {c:DV} {cs:List DV} {v:Value} {vs:List Value} (h:Dat D w c v) (h1:v.oneCell'=true) (k:CV D w cs vs):CV D w (c::cs) (v::vs):=
 CV.append (cs:= [c]) (vs:= [v]) ⟨rfl,by simpa using h1,fun i x y hx hy=>by
  cases i with
  |zero=>simp at hx hy;subst hx hy;exact h
  |succ i=>simp at hx⟩ k
theorem CV.uncons {c:DV} {cs:List DV} {vs:List Value} (h:CV D w (c::cs) vs): ∃ v us,vs=v::us∧Dat D w c v∧v.oneCell'=true∧CV D w cs us:=by
 cases vs with
 |nil=>have:=h.1;simp at this
 |cons v us=>
  refine⟨v,us,rfl,h.2.2 0 c v rfl rfl,h.2.1 v (by simp),by have:=h.1;simp at this;exact this,fun y hy=>h.2.1 y (by simp[hy]),fun i x y hx hy=>h.2.2 (i+1) x y (by simpa using hx) (by simpa using hy)⟩
/-- The cells of a value. -/
theorem Dat.cells {x:DV} {v:Value} (h:Dat D w x v) (ht: ∀ cs,x≠ .tu cs):CV D w x.cells v.cells.toList:=by
 cases h with
 |v h1=>
  have e:v.cells= #[v]:=by cases v<;>simp[Value.cells,Value.oneCell']at h1 ⊢
  rw[e];exact CV.cons (.v h1) h1 .nil
 |ag hl ho h=>exact Dat.toCV (.ag hl ho h)
 |tu hl h=>exact absurd rfl (ht _)
 |sl c a b cc d e=>exact CV.cons (.sl c a b cc d e) rfl .nil
theorem isAgg_run {t:TypeId} {b:Bool} (h:isAggT P t=some b):(isAgg t).run P w= .ok b w:=by
 unfold isAggT at h;split at h<;>simp at h<;>subst h<;>simp[isAgg,underlying, *]
theorem sizeOf_run {t:TypeId} {n:Nat} (h:sizeT P t=some n):(sizeOf t).run P w= .ok n w:=by
 unfold sizeT at h;cases hi:P.info? t with
 |none=>rw[hi]at h;cases h
 |some i=>rw[hi]at h;simp at h;subst h;simp[sizeOf,typeInfo,hi]
theorem underlying_run {t:TypeId} {d:TypeDesc} (h:P.underlying t=some d):(underlying t).run P w= .ok d w:=by
 simp[underlying,h]
theorem part_ok {t:TypeId} {cs:List DV} {arr:Array Value} {off:Nat} {z:DV} (hc:CV D w cs arr.toList) (h:partA P t (cs.drop off)=some z):
 ∃ v,(part t arr off).run P w= .ok v w∧Dat D w z v∧(∀ l,z≠ .tu l):=by
 unfold partA at h;split at h
 ·rename_i n ha hn;obtain⟨hle,he⟩:=bif_some h;simp at he;subst he;have hle':n≤(cs.drop off).length:=Nat.le_of_ble_eq_true hle;refine⟨.agg (arr.extract off (off+n)),by simp[part,isAgg_run ha,sizeOf_run hn],CV.toDat ?_,fun l=>by simp⟩;have:=((hc.drop off).take n).dis1;rw[Array.toList_extract];simpa [List.extract_eq_drop_take']using this
 ·rename_i ha hn;cases hd:cs.drop off with
  |nil=>rw[hd]at h;cases h
  |cons x r=>
   rw[hd]at h;simp at h;subst h;obtain⟨v,us,he,h1,h2,_⟩:=(hd ▸ hc.drop off:CV D w (x::r) (arr.toList.drop off)).uncons;have hv:arr[off]? =some v:=by
    have:(arr.toList.drop off)[0]? =some v:=(by rw[he];rfl);simpa [List.getElem?_drop]using this
   exact⟨v,by simp[part,isAgg_run ha,hv],h1.dis1,fun l=>by cases h1<;>simp[DV.dis1];rename_i a b;simp[Value.oneCell']at h2⟩
 cases h
/-- Cells in memory. -/
def CA (D : Nat → Nat → Prop) (w : World) (b o : Nat) (cs : List DV) : Prop :=
  ∀ (q : Nat) (x : DV), cs[q]? = some x → ∃ c, w.cell? ⟨b, o + q, none⟩ = some c ∧ c.oneCell' = true ∧ Dat D w x c
theorem CA.drop {b o:Nat} {cs:List DV} (h:CA D w b o cs) (n:Nat):CA D w b (o+n) (cs.drop n):=fun q x hx=>by
 rw[Nat.add_assoc];exact h (n+q) x (by simpa [List.getElem?_drop]using hx)
theorem CA.list {b o:Nat} {cs:List DV} (h:CA D w b o cs): ∃ vs,CV D w cs vs∧ ∀ j v,vs[j]? =some v→w.cell? ((⟨b,o,none⟩:Addr).add j)=some v:=by
 induction cs generalizing o with
 |nil=>exact⟨[],.nil,fun j v hv=>by simp at hv⟩
 |cons x r ih=>
  obtain⟨c,h1,h2,h3⟩:=h 0 x rfl;obtain⟨vs,k1,k2⟩:=ih (o:=o+1) (by simpa using h.drop 1);refine⟨c::vs,CV.cons h3 h2 k1,fun j v hv=>?_⟩;(have hadd: ∀ o j,(⟨b,o,none⟩:Addr).add j=⟨b,o+j,none⟩:=fun o j=>by unfold Addr.add;split<;>simp_all);cases j with
  |zero=>simp at hv;subst hv;rw[hadd];exact h1
  |succ j=>
   have:=k2 j v (by simpa using hv);rw[hadd]at this ⊢;rw[← this];congr 2;omega
theorem CA.take {b o:Nat} {cs:List DV} (h:CA D w b o cs) (n:Nat):CA D w b o (cs.take n):=fun q x hx=>by
 rw[List.getElem?_take]at hx;split at hx
 ·exact h q x hx
 cases hx
theorem load_ok {t:TypeId} {b o:Nat} {cs:List DV} {z:DV} (hc:CA D w b o cs) (h:partA P t cs=some z):
 ∃ v,(loadVar t ⟨b,o,none⟩).run P w= .ok v w∧Dat D w z v∧(∀ l,z≠ .tu l):=by
 unfold partA at h;split at h
 ·rename_i n ha hn;obtain⟨hle,he⟩:=bif_some h;simp at he;subst he;have hle':n≤cs.length:=Nat.le_of_ble_eq_true hle;obtain⟨vs,h1,h2⟩:=(hc.take n).list;have hl:vs.length=n:=(by rw[h1.1];simp;omega);have hr:=run_loadCells_list (P:=P) w ⟨b,o,none⟩ vs h2;rw[hl]at hr;exact⟨.agg vs.toArray,by simp[loadVar,isAgg_run ha,sizeOf_run hn,hr],CV.toDat (by simpa using h1.dis1),fun l=>by simp⟩
 ·rename_i ha hn;cases cs with
  |nil=>cases h
  |cons x r=>
   simp at h;subst h;obtain⟨c,h1,h2,h3⟩:=hc 0 x rfl;exact⟨c,by simp only[Nat.add_zero]at h1;simp[loadVar,isAgg_run ha,h1],h3.dis1,fun l=>by cases h3<;>simp[DV.dis1];rename_i a b;simp[Value.oneCell']at h2⟩
 cases h
theorem ofV_ok {v:Value} {x:DV} (h:ofV v=some x):Dat D w x v∧(∀ l,x≠ .tu l)∧x.dis=x∧(∀ p:Nat→Nat→Nat→Prop,OwnA p w x v):=by
 have hv1: ∀ l:List Value,allOne l=true→CV D w (l.map .v) l:=by
  intro l;induction l with
  |nil=>intro _;exact .nil
  |cons a r ih=>intro h;simp[allOne]at h;exact CV.cons (.v h.1) h.1 (ih h.2)
 unfold ofV at h;split at h
 ·rename_i arr;obtain⟨h1,h2⟩:=bif_some h;simp at h2;subst h2;exact⟨CV.toDat (hv1 _ h1),fun l=>by simp,rfl,fun p=>by simp[OwnA,OwnS]⟩
 ·cases h
 rename_i hag htu;simp at h;subst h;exact⟨.v (by cases v<;>simp[Value.oneCell']at*),fun l=>by simp,rfl,fun p=>by simp[OwnA,OwnS]⟩
theorem zeroT_ok {t:TypeId} {x:DV} (h:zeroT P t=some x): ∃ v,(zeroValue t).run P w= .ok v w∧Dat D w x v∧(∀ l,x≠ .tu l)∧ ∃ i,P.info? t=some i∧i.zero=some v:=by
 unfold zeroT at h;cases hi:P.info? t with
 |none=>rw[hi]at h;cases h
 |some i=>
  rw[hi]at h;cases hz:i.zero with
  |none=>simp[hz]at h
  |some v=>
   simp[hz]at h;exact⟨v,by simp[zeroValue,typeInfo,hi,hz],(ofV_ok h).1,(ofV_ok (D:=D) (w:=w) h).2.1,i,rfl,hz⟩
end
end Go.Proofs.YtcfoebkbahpnaaaGreat.Ab
