/- A call. -/
import Derived.Test.YtcfoebkbahpnaaaGreatZAk
set_option linter.unusedVariables false
set_option linter.unusedSimpArgs false
namespace Go.Proofs.YtcfoebkbahpnaaaGreat.Ab
open Go

def FunOK (P : Program) (f : FuncId) (args : List AV) (obs : List (List DV)) (r : R) : Prop :=
  ∀ who μ w (vals : List Value), Fresh who w → vals.length = args.length → (∀ (i : Nat) x v, args[i]? = some x → vals[i]? = some v → AR who μ w (.slot i) x v) →
    (∀ (i : Nat) k off, args[i]? = some (.pt k off) → k < obs.length) → ORep who μ w (obs.map some) →
    Calls P f vals.toArray w fun e w' => ∃ v who', e = .returned v ∧ Fresh who' w' ∧ Pres who w who' w' ∧ AR who' μ w' (.slot 0) (.d r.1) v ∧ ORep who' μ w' (r.2.map some)
def Enters (P : Program) (f : FuncId) : Prop := ∃ fn, P.funcs[f]? = some fn ∧ (fn.name == "runtime.NumGoroutine") = false ∧ fn.body.isNone = false
def EnvOK (P : Program) (env : Env) : Prop := ∀ f args obs K r, env f args obs K = some r → ∃ q : R, (∀ K', env f args obs K' = K' q) ∧ Enters P f ∧ FunOK P f args obs q

/-! Lists -/
theorem mem_iff (n:Nat): ∀ l:List Nat,mem n l=true ↔ n ∈ l
 | []=>by simp[mem]
 |m::r=>by
  simp only[mem,List.mem_cons];cases h:Nat.beq m n with
  |true=>simp[Nat.eq_of_beq_eq_true h]
  |false=>simp only[cond_false,mem_iff n r];constructor;exact .inr;rintro(rfl|h');(·simp at h);exact h'
theorem nodup_iff: ∀ l:List Nat,nodup l=true ↔ l.Nodup
 | []=>by simp[nodup]
 |m::r=>by simp[nodup,nodup_iff r,Bool.and_eq_true,List.nodup_cons,← mem_iff]
theorem idxOf_nd: ∀ (l:List Nat) (k i:Nat),l.Nodup→l[i]? =some k→idxOf k l=some i
 | [],k,i,_,h=>by simp at h
 |m::r,k,i,hn,h=>by
  simp only[idxOf];cases i with
  |zero=>simp at h;subst h;simp[Nat.beq_refl]
  |succ i=>
   simp at h;(have hne:m≠k:=fun e=>by subst e;exact(List.nodup_cons.1 hn).1 (List.mem_of_getElem? h));have hb:Nat.beq m k=false:=by cases hb:Nat.beq m k;rfl;exact absurd (Nat.eq_of_beq_eq_true hb) hne
   rw[hb];simp[idxOf_nd r k i (List.nodup_cons.1 hn).2 h]
theorem idxOf_none: ∀ (l:List Nat) (k:Nat),k ∉ l→idxOf k l=none
 | [],k,h=>rfl
 |m::r,k,h=>by
  simp only[List.mem_cons,not_or]at h;have hb:Nat.beq m k=false:=by cases hb:Nat.beq m k;rfl;exact absurd (Nat.eq_of_beq_eq_true hb).symm h.1
  simp[idxOf,hb,idxOf_none r k h.2]
theorem passA_len: ∀ (vs:List AV) (n:Nat),(passA vs n).1.length=vs.length
 | [],n=>rfl
 |x::r,n=>by cases x<;>simp[passA,passA_len r]
theorem passA_spec: ∀ (vs:List AV) (n i:Nat) (y:AV),(passA vs n).1[i]? =some y→
 (∃ k off m,vs[i]? =some (.pt k off)∧y= .pt (n+m) off∧(passA vs n).2[m]? =some k)∨(vs[i]? =some y∧ ∀ k off,y≠ .pt k off)
 | [],n,i,y,h=>by simp[passA]at h
 |x::r,n,i,y,h=>by
  have gen: ∀ (hx: ∀ k off,x≠ .pt k off),passA (x::r) n=(x::(passA r n).1,(passA r n).2):=by intro hx;cases x<;>first|rfl|exact absurd rfl (hx _ _)
  by_cases hx: ∃ k off,x= .pt k off
  ·obtain⟨k,off,rfl⟩:=hx;have e:passA (.pt k off::r) n=(.pt n off::(passA r (n+1)).1,k::(passA r (n+1)).2):=rfl;rw[e]at h ⊢;cases i with
   |zero=>simp at h;subst h;exact .inl ⟨k,off,0,rfl,rfl,rfl⟩
   |succ i=>
    simp at h;rcases passA_spec r (n+1) i y h with ⟨k',off',m,h1,h2,h3⟩|⟨h1,h2⟩
    ·exact .inl ⟨k',off',m+1,by simpa using h1,by rw[h2];congr 1;omega,by simpa using h3⟩
    exact .inr ⟨by simpa using h1,h2⟩
  (have hx': ∀ k off,x≠ .pt k off:=fun k off e=>hx ⟨k,off,e⟩);rw[gen hx']at h ⊢;cases i with
  |zero=>simp at h;subst h;exact .inr ⟨rfl,hx'⟩
  |succ i=>
   simp at h;rcases passA_spec r n i y h with ⟨k',off',m,h1,h2,h3⟩|⟨h1,h2⟩
   ·exact .inl ⟨k',off',m,by simpa using h1,h2,h3⟩
   exact .inr ⟨by simpa using h1,h2⟩
theorem passA_lt: ∀ (vs:List AV) (n i k off:Nat),(passA vs n).1[i]? =some (.pt k off)→k<n+(passA vs n).2.length:=fun vs n i k off h=>by
 rcases passA_spec vs n i _ h with ⟨k',off',m,_,h2,h3⟩|⟨_,h2⟩
 ·injection h2 with h2 _;have:=(List.getElem?_eq_some_iff.1 h3).1;omega
 exact absurd rfl (h2 k off)
theorem disArgs_len (l:List Nat): ∀ (vs:List AV) (m:Nat),(disArgs l vs m).length=vs.length
 | [],_=>rfl
 |x::r,m=>by simp[disArgs,disArgs_len l r]
theorem disArgs_get (l:List Nat): ∀ (vs:List AV) (m i:Nat),(disArgs l vs m)[i]? =(vs[i]?).map fun x=>bif mem (m+i) l then x else x.dis
 | [],m,i=>by simp[disArgs]
 |x::r,m,i=>by
  cases i with
  |zero=>simp[disArgs]
  |succ i=>simp only[disArgs,List.getElem?_cons_succ];rw[disArgs_get l r (m+1) i];congr 1;funext x;rw[show m+1+i=m+(i+1)from by omega]
theorem gets_spec: ∀ (ob:Ob) (ks:List Nat) (cs:List (List DV)),gets ob ks=some cs→cs.length=ks.length∧ ∀ (i k:Nat) (c:List DV),ks[i]? =some k→cs[i]? =some c→ob[k]? =some (some c)
 |ob,[],cs,h=>by simp[gets]at h;subst h;exact⟨rfl,fun i k c h=>by simp at h⟩
 |ob,k::r,cs,h=>by
  simp only[gets]at h;split at h
  ·rename_i c l hc hl;simp at h;subst h;obtain⟨h1,h2⟩:=gets_spec ob r l hl;refine⟨by simp[h1],fun i k' c' hk hc'=>?_⟩;cases i with
   |zero=>simp at hk hc';subst hk hc';exact hc
   |succ i=>exact h2 i k' c' (by simpa using hk) (by simpa using hc')
  cases h
theorem setL_out: ∀ (l:List (Nat × List DV)) (ob:Ob) (k:Nat),k ∉ l.map (·.1)→(setL ob l)[k]? =ob[k]?
 | [],ob,k,_=>rfl
 |(k',x)::r,ob,k,h=>by
  simp only[List.map_cons,List.mem_cons,not_or]at h;simp only[setL];rw[setL_out r _ k h.2,List.getElem?_set,if_neg (Ne.symm h.1)]
theorem setL_in: ∀ (l:List (Nat × List DV)) (ob:Ob) (i k:Nat) (x:List DV),(l.map (·.1)).Nodup→l[i]? =some (k,x)→k<ob.length→(setL ob l)[k]? =some (some x)
 | [],ob,i,k,x,_,h,_=>by simp at h
 |(k',x')::r,ob,i,k,x,hn,h,hk=>by
  simp only[List.map_cons,List.nodup_cons]at hn;simp only[setL];cases i with
  |zero=>simp at h;obtain⟨rfl,rfl⟩:=h;rw[setL_out r _ _ hn.1,List.getElem?_set,if_pos rfl,if_pos hk]
  |succ i=>exact setL_in r _ i k x hn.2 (by simpa using h) (by simpa using hk)
theorem setL_some: ∀ (l:List (Nat × List DV)) (ob:Ob) (k:Nat) (cs:List DV),ob[k]? =some (some cs)→ ∃ cs',(setL ob l)[k]? =some (some cs')
 | [],ob,k,cs,h=>⟨cs,h⟩
 |(k',x)::r,ob,k,cs,h=>by
  simp only[setL];by_cases e:k'=k
  ·subst e;exact setL_some r _ k' x (by rw[List.getElem?_set,if_pos rfl,if_pos (List.getElem?_eq_some_iff.1 h).1])
  exact setL_some r _ k cs (by rw[List.getElem?_set,if_neg e];exact h)
theorem putL_out: ∀ (l:List (Nat × AV)) (fr:Fr) (t:Nat),t ∉ l.map (·.1)→putL fr l t=fr t
 | [],fr,t,_=>rfl
 |(u,x)::r,fr,t,h=>by
  simp only[List.map_cons,List.mem_cons,not_or]at h;simp only[putL];rw[putL_out r _ t h.2,Fr.put_ne _ _ h.1]
theorem putL_in: ∀ (l:List (Nat × AV)) (fr:Fr) (t:Nat) (y:AV),(∀ x,(t,x) ∈ l→x=y)→t ∈ l.map (·.1)→putL fr l t=y
 | [],fr,t,y,_,h=>by simp at h
 |(u,x)::r,fr,t,y,h1,h2=>by
  simp only[putL];by_cases h:t ∈ r.map (·.1)
  ·exact putL_in r _ t y (fun x' hx'=>h1 x' (by simp[hx'])) h
  rw[putL_out r _ t h];simp only[List.map_cons,List.mem_cons]at h2;have e:t=u:=h2.resolve_right h;subst e;rw[Fr.put_same];exact h1 x (by simp)
theorem putL_append: ∀ (l k:List (Nat × AV)) (fr:Fr),putL fr (l++k)=putL (putL fr l) k
 | [],k,fr=>rfl
 |(u,x)::r,k,fr=>by simp only[List.cons_append,putL];exact putL_append r k _
theorem argTakes_mem (l:List Nat) (fr:Fr): ∀ (as:List Operand) (i t:Nat) (x:AV),(t,x) ∈ argTakes l as i fr→x=(fr t).dis∧ ∃ j,as[j]? =some (.tmp t)∧mem (i+j) l=true
 | [],i,t,x,h=>by simp[argTakes]at h
 |y::r,i,t,x,h=>by
  have tail: ∀ (h:(t,x) ∈ argTakes l r (i+1) fr),x=(fr t).dis∧ ∃ j,(y::r)[j]? =some (.tmp t)∧mem (i+j) l=true:=fun h=>by
   obtain⟨h1,j,h2,h3⟩:=argTakes_mem l fr r (i+1) t x h;exact⟨h1,j+1,by simpa using h2,by rw[show i+(j+1)=i+1+j from by omega];exact h3⟩
  cases y with
  |tmp u=>
   simp only[argTakes]at h;cases hm:mem i l with
   |true=>
    rw[hm]at h;simp only[cond_true,List.mem_cons,Prod.mk.injEq]at h;rcases h with ⟨rfl,rfl⟩|h
    ·exact⟨rfl,0,rfl,hm⟩
    exact tail h
   |false=>rw[hm]at h;exact tail h
  |const v=>exact tail h
  |global g=>exact tail h
  |func f=>exact tail h
theorem argTakes_has (l:List Nat) (fr:Fr): ∀ (as:List Operand) (i t j:Nat),as[j]? =some (.tmp t)→mem (i+j) l=true→(t,(fr t).dis) ∈ argTakes l as i fr
 | [],i,t,j,h,_=>by simp at h
 |y::r,i,t,j,h,hm=>by
  cases j with
  |zero=>simp at h;subst h;simp only[argTakes];rw[show mem i l=true from hm];simp
  |succ j=>
   have ih:=argTakes_has l fr r (i+1) t j (by simpa using h) (by rw[show i+1+j=i+(j+1)from by omega];exact hm);cases y with
   |tmp u=>simp only[argTakes];cases mem i l<;>simp[ih]
   |const v=>exact ih
   |global g=>exact ih
   |func f=>exact ih
theorem tmps_mem: ∀ (as:List Operand) (j t:Nat),as[j]? =some (Operand.tmp t)→t ∈ tmpsOf as
 | [],j,t,h=>by simp at h
 |y::r,j,t,h=>by
  cases j with
  |zero=>simp at h;subst h;simp[tmpsOf]
  |succ j=>have:=tmps_mem r j t (by simpa using h);cases y<;>simp[tmpsOf,this]
theorem tmps_nd: ∀ (as:List Operand) (i j t:Nat),(tmpsOf as).Nodup→as[i]? =some (Operand.tmp t)→as[j]? =some (Operand.tmp t)→i=j
 | [],i,j,t,_,h,_=>by simp at h
 |y::r,i,j,t,hn,h1,h2=>by
  have hr:(tmpsOf r).Nodup:=by cases y<;>simp[tmpsOf]at hn<;>first|exact hn.2|exact hn
  cases i with
  |zero=>
   cases j with
   |zero=>rfl
   |succ j=>simp at h1;subst h1;simp[tmpsOf]at hn;exact absurd (tmps_mem r j t (by simpa using h2)) hn.1
  |succ i=>
   cases j with
   |zero=>simp at h2;subst h2;simp[tmpsOf]at hn;exact absurd (tmps_mem r i t (by simpa using h1)) hn.1
   |succ j=>exact congrArg (·+1) (tmps_nd r i j t hr (by simpa using h1) (by simpa using h2))
theorem AR.lab {who:Who} {f:Pl→Pl} {μ μ':Nat→Option Nat} {w:World} {p p':Nat→Pl} {x:AV} {v:Value} (hp: ∀ j,f (p j)=p' j) (hμ: ∀ k off,x= .pt k off→μ' k=μ k) (h:AR who μ w p x v):AR (relab who f) μ' w p' x v:=by
 have hro:Ro (relab who f)=Ro who:=(by funext b o;simp[Ro,relab]);cases x with
 |d x=>
  obtain⟨h1,h2⟩:=h;refine⟨hro ▸ h1,?_⟩;have hS: ∀ j (x:DV) v,OwnS (fun b o=>who b o=some (p j)) w x v→OwnS (fun b o=>relab who f b o=some (p' j)) w x v:=fun j x v h=>by
   unfold OwnS at h ⊢;split
   ·rcases h with h|⟨g,cap,cur,e,a1,a2,a3,a4,a5,a6,a7⟩
    ·exact .inl h
    exact .inr ⟨g,cap,cur,e,a1,a2,a3,a4,a5,a6,fun o ho=>by simp[relab,a7 o ho,hp]⟩
   trivial
  cases x with
  |tu cs=>exact fun vs hv j y u hy hu=>hS j y u (h2 vs hv j y u hy hu)
  |v y=>exact hS 0 (.v y) v h2
  |ag y=>exact hS 0 (.ag y) v h2
  |sl y1 y2 y3=>exact hS 0 (.sl y1 y2 y3) v h2
 |pt k off=>obtain⟨b,h1,h2⟩:=h;exact⟨b,(hμ k off rfl).trans h1,h2⟩
 |el cs=>
  obtain⟨b,o,h1,c,h2⟩:=h;refine⟨b,o,h1,c,fun q x hx=>?_⟩;obtain⟨a1,a2,a3,a4⟩:=h2 q x hx;exact⟨by simp[relab,a1],a2,a3,hro ▸ a4⟩
 |un=>trivial
theorem AR.dis_pres {who who':Who} {w w':World} {μ μ':Nat→Option Nat} (h:Pres who w who' w') {p p':Nat→Pl} {a:AV} {v:Value}
 (hμ: ∀ k off,a= .pt k off→μ' k=μ k) (hd:AR who μ w p a v):AR who' μ' w' p' a.dis v:=by
 cases a with
 |d x=>exact⟨(hd.1.pres h).dis,OwnA.dis x v⟩
 |pt k off=>obtain⟨b,h1,h2⟩:=hd;exact⟨b,(hμ k off rfl).trans h1,h2⟩
 |el cs=>
  obtain⟨b,o,h1,c,h2⟩:=hd;refine⟨b,o,h1,c,fun q x hx=>?_⟩;obtain⟨a1,a2,a3,a4⟩:=h2 q x hx;have hlt:b<w.heap.size:=cell_lt (by rw[a2];rfl);exact⟨h.ro b _ hlt a1,((h.blk b hlt).cell (.inl a1)).trans a2,a3,a4.pres h⟩
 |un=>trivial
theorem BP.all {x y:Option Obj} {c:Array Value} {ty:TypeId} {f:Nat × Nat} (hx:x=some (.cells c ty f)) (h:BP (fun _=>True) x y):y=x:=by
 subst hx;obtain⟨c',rfl,h1,h2⟩:=h;(have:c'=c:=Array.ext_getElem? fun i=>h2 i trivial);rw[this]
theorem BP.weak {p q:Nat→Prop} {x y:Option Obj} (h:BP p x y) (hq: ∀ o,q o→p o):BP q x y:=by
 unfold BP at h ⊢;split
 ·obtain⟨c',h0,h1,h2⟩:=h;exact⟨c',h0,h1,fun o ho=>h2 o (hq o ho)⟩
 rename_i hn;split at h
 ·rename_i c ty f;exact absurd rfl (hn c ty f)
 exact h
/-- What holds of the first holds of the second. -/
def Le (x x' : AV) : Prop := (∀ who μ w p v, AR who μ w p x v → AR who μ w p x' v) ∧ ∀ k off, x' = .pt k off ↔ x = .pt k off
theorem Le.refl (x:AV):Le x x:=⟨fun _ _ _ _ _ h=>h,fun _ _=>Iff.rfl⟩
theorem cz_dat {P:Program} {D:Nat→Nat→Prop} {w:World} {t:TypeId} {x:DV} {v:Value} (h:Dat D w x v):Dat D w (cz P t x) v:=by
 unfold cz;split
 ·split
  ·split
   ·have:=h.v_inv;subst this;exact nil_dat
   exact h
  exact h
 exact h
theorem cz_own {P:Program} {D:Nat→Nat→Prop} {p:Nat→Nat→Nat→Prop} {w:World} {t:TypeId} {x:DV} {v:Value} (hd:Dat D w x v) (h:OwnA p w x v):OwnA p w (cz P t x) v:=by
 unfold cz;split
 ·split
  ·split
   ·have:=hd.v_inv;subst this;exact .inl rfl
   exact h
  exact h
 exact h
theorem cz_owns {P:Program} {D:Nat→Nat→Prop} {p:Nat→Nat→Prop} {w:World} {t:TypeId} {x:DV} {v:Value} (hd:Dat D w x v) (h:OwnS p w x v):OwnS p w (cz P t x) v:=by
 unfold cz;split
 ·split
  ·split
   ·have:=hd.v_inv;subst this;exact .inl rfl
   exact h
  exact h
 exact h
theorem czX_dat {P:Program} {D:Nat→Nat→Prop} {w:World} {t:TypeId} {x:DV} {v:Value} (h:Dat D w x v):Dat D w (czX P t x) v:=by
 have h:=cz_dat (P:=P) (t:=t) h;unfold czX;split
 ·rename_i cs he;rw[he]at h;cases h with
  |ag hl ho hc=>
   (refine .ag (by rw[czK_len];exact hl) ho fun i x y hx hy=>?_);obtain⟨x0,hx0,he⟩:=czK_get false _ _ i x hx;have h1:=hc i x0 y hx0 hy;rcases he with rfl|⟨n,rfl,rfl⟩
   ·exact h1
   have:=h1.v_inv;subst this;exact nil_dat
 exact h
theorem czX_own {P:Program} {D:Nat→Nat→Prop} {p:Nat→Nat→Nat→Prop} {w:World} {t:TypeId} {x:DV} {v:Value} (hd:Dat D w x v) (h:OwnA p w x v):OwnA p w (czX P t x) v:=by
 have h:=cz_own (P:=P) (t:=t) hd h;unfold czX;split
 ·trivial
 exact h
theorem czX_owns {P:Program} {D:Nat→Nat→Prop} {p:Nat→Nat→Prop} {w:World} {t:TypeId} {x:DV} {v:Value} (hd:Dat D w x v) (h:OwnS p w x v):OwnS p w (czX P t x) v:=by
 have h:=cz_owns (P:=P) (t:=t) hd h;unfold czX;split
 ·trivial
 exact h
theorem czXA_le (P:Program) (t:TypeId) (x:AV):Le x (czXA P t x):=by
 cases x with
 |d x=>exact⟨fun who μ w p v h=>⟨czX_dat h.1,czX_own h.1 h.2⟩,fun k off=>by simp[czXA]⟩
 |_=>exact Le.refl _
theorem czTs_len (P:Program): ∀ (l:List DV) (ts:List TypeId),(czTs P l ts).length=l.length
 | [],ts=>by cases ts<;>rfl
 |x::r,[]=>rfl
 |x::r,t::ts=>by simp[czTs,czTs_len P r ts]
theorem czTs_get (P:Program): ∀ (l:List DV) (ts:List TypeId) (i:Nat) (y:DV),(czTs P l ts)[i]? =some y→ ∃ x,l[i]? =some x∧(y=x∨ ∃ t,y=czX P t x)
 | [],ts,i,y,h=>by cases ts<;>simp[czTs]at h
 |x::r,[],i,y,h=>⟨y,h,.inl rfl⟩
 |x::r,t::ts,i,y,h=>by
  cases i with
  |zero=>simp[czTs]at h;subst h;exact⟨x,rfl,.inr ⟨t,rfl⟩⟩
  |succ i=>exact czTs_get P r ts i y (by simpa [czTs]using h)
theorem czR_ar {P:Program} {ts:List TypeId} {who:Who} {μ:Nat→Option Nat} {w:World} {p:Nat→Pl} {x:DV} {v:Value} (h:AR who μ w p (.d x) v):AR who μ w p (.d (czR P ts x)) v:=by
 unfold czR;split
 ·obtain⟨h1,h2⟩:=h;cases h1 with
  |tu hl hc=>
   refine⟨.tu (by rw[czTs_len];exact hl) fun i x y hx hy=>?_,fun vs hv j y u hy hu=>?_⟩
   ·obtain⟨x0,hx0,he⟩:=czTs_get P _ ts i x hx;have:=hc i x0 y hx0 hy;rcases he with rfl|⟨t,rfl⟩
    ·exact this
    exact czX_dat this
   cases hv
   obtain⟨x0,hx0,he⟩:=czTs_get P _ ts j y hy;have g1:=hc j x0 u hx0 hu;have g2:=h2 _ rfl j x0 u hx0 hu;rcases he with rfl|⟨t,rfl⟩
   ·exact g2
   exact czX_owns g1 g2
 split
 ·exact⟨czX_dat h.1,czX_own h.1 h.2⟩
 exact h
theorem czA_le (P:Program) (t:TypeId) (x:AV):Le x (czA P t x):=by
 cases x with
 |d x=>exact⟨fun who μ w p v h=>⟨cz_dat h.1,cz_own h.1 h.2⟩,fun k off=>by simp[czA]⟩
 |_=>exact Le.refl _
theorem czArgs_len (P:Program): ∀ (l:List AV) (ts:List TypeId),(czArgs P l ts).length=l.length
 | [],ts=>by cases ts<;>rfl
 |x::r,[]=>rfl
 |x::r,t::ts=>by simp[czArgs,czArgs_len P r ts]
theorem czArgs_get (P:Program): ∀ (l:List AV) (ts:List TypeId) (i:Nat) (y:AV),(czArgs P l ts)[i]? =some y→ ∃ x,l[i]? =some x∧Le x y
 | [],ts,i,y,h=>by cases ts<;>simp[czArgs]at h
 |x::r,[],i,y,h=>⟨y,h,Le.refl _⟩
 |x::r,t::ts,i,y,h=>by
  cases i with
  |zero=>simp[czArgs]at h;subst h;exact⟨x,rfl,czXA_le P t x⟩
  |succ i=>exact czArgs_get P r ts i y (by simpa [czArgs]using h)
section
variable {G:Cfg} {who:Who} {μ:Nat→Option Nat} {w:World} {N n0:Nat} {fr:Fr} {a:Act} {ob:Ob} {o:Oper} {K:Act→World→Prop} {Q:Exit→Act→World→Prop}
theorem call_ok {f : FuncId} {as ts : List Operand × Array TypeId} {c1 : Call1} {r : R} {e : Delta} (hI : Inv who μ w N fr a.tmps ob) (hN : ∀ d, o.dst = some d → d < N)
    (he : o.op = .call { callee := .value (.func f), args := as.1.toArray, argTypes := as.2 }) (hin : callIn G f as.1 as.2.toList fr ob = some c1) (hE : Enters G.P f) (hF : FunOK G.P f c1.args c1.objs r) (hout : callOut o.dst c1 r = some e)
    (hk : StepK who μ w N n0 fr ob e a.defers K) : o.wp G.P a w K Q := by
  obtain ⟨as, tys⟩ := as
  simp only at he hin
  unfold callIn at hin
  obtain ⟨hnd, hin⟩ := bif_some hin
  rw [Bool.and_eq_true, nodup_iff, nodup_iff] at hnd
  rw [Option.map_eq_some_iff] at hin
  obtain ⟨cs, hgets, rfl⟩ := hin
  unfold callOut at hout
  obtain ⟨hrl, hout⟩ := bif_some hout
  have hrl := Nat.eq_of_beq_eq_true hrl
  simp only [Option.some.injEq] at hout
  simp only at hrl hout hF
  generalize hvs0 : disArgs (G.ownp f) (as.map (evA fr)) 0 = vs0 at *
  generalize hvs : czArgs G.P vs0 tys.toList = vs at *
  generalize hkeys : (passA vs 0).2 = keys at *
  obtain ⟨hcl, hcs⟩ := gets_spec ob keys cs hgets
  have hvl : (passA vs 0).1.length = as.length := by rw [passA_len, ← hvs, czArgs_len, ← hvs0, disArgs_len]; simp
  -- who writes what, as the callee sees it
  let ai : Nat → Option Nat := fun t => (List.range as.length).find? fun i => mem i (G.ownp f) && (match as[i]? with | some (.tmp u) => Nat.beq u t | _ => false)
  have hai : ∀ i t, as[i]? = some (Operand.tmp t) → mem i (G.ownp f) = true → ai t = some i := fun i t h1 h2 => by
    have hi : i < as.length := (List.getElem?_eq_some_iff.1 h1).1
    cases hf : ai t with
    | none =>
      have := List.find?_eq_none.1 hf i (List.mem_range.2 hi)
      simp [h2, h1, Nat.beq_refl] at this
    | some j =>
      have hp := List.find?_some hf
      rw [Bool.and_eq_true] at hp
      have hj := hp.2
      cases hj' : as[j]? with
      | none => rw [hj'] at hj; simp at hj
      | some y =>
        rw [hj'] at hj
        cases y with
        | tmp u => have := Nat.eq_of_beq_eq_true hj; subst this; rw [tmps_nd as j i u hnd.2 hj' h1]
        | _ => simp at hj
  have hai2 : ∀ t i, ai t = some i → as[i]? = some (Operand.tmp t) ∧ mem i (G.ownp f) = true := fun t i hf => by
    have hp := List.find?_some hf
    rw [Bool.and_eq_true] at hp
    have hj := hp.2
    cases hj' : as[i]? with
    | none => rw [hj'] at hj; simp at hj
    | some y =>
      rw [hj'] at hj
      cases y with
      | tmp u => have := Nat.eq_of_beq_eq_true hj; subst this; exact ⟨rfl, hp.1⟩
      | _ => simp at hj
  let fw : Pl → Pl := fun p => match p with
    | .slot t j => match ai t with | some i => .slot i j | none => .rest
    | .blk k => match idxOf k keys with | some i => .blk i | none => .rest
    | .cell k j => match idxOf k keys with | some i => .cell i j | none => .rest
    | .rest => .rest
    | .junk => .rest
  let μc : Nat → Option Nat := fun i => (keys[i]?).bind μ
  have hro : Ro (relab who fw) = Ro who := by funext b o; simp [Ro, relab]
  -- the callee's arguments
  have hargs : ∀ (i : Nat) x v, (passA vs 0).1[i]? = some x → (as.map a.eval)[i]? = some v → AR (relab who fw) μc w (.slot i) x v := by
    intro i x v hx hv
    have hi : i < as.length := by rw [← hvl]; exact (List.getElem?_eq_some_iff.1 hx).1
    have hasi : as[i]? = some as[i] := List.getElem?_eq_getElem hi
    have hvv : v = a.eval as[i] := by rw [List.getElem?_map, hasi] at hv; simpa using hv.symm
    subst hvv
    have hvi : vs0[i]? = some (bif mem i (G.ownp f) then evA fr as[i] else (evA fr as[i]).dis) := by
      rw [← hvs0, disArgs_get, List.getElem?_map, hasi]; simp
    have hdd : ∀ x : AV, x.dis.dis = x.dis := by
      intro x; cases x with
      | d x => cases x <;> simp [AV.dis, DV.dis]; rintro y _; cases y <;> rfl
      | _ => rfl
    have disd : ∀ z : Operand, (∀ k off, (evA fr z).dis ≠ .pt k off) → AR (relab who fw) μc w (.slot i) (evA fr z).dis (a.eval z) := fun z hnp => by
      have h1 := evA_dis hI z (fun _ => .rest)
      have h2 := AR.lab (f := fw) (μ' := μc) (p' := fun _ => .rest) (fun _ => rfl) (fun k off e => absurd e (hnp k off)) h1
      have h3 := h2.dis (p' := .slot i)
      rwa [hdd] at h3
    -- what the slot says, with the labels turned
    have base : ∀ y, vs0[i]? = some y → (∀ k off, y ≠ .pt k off) → AR (relab who fw) μc w (.slot i) y (a.eval as[i]) := by
      intro y hy hnp
      rw [hvi] at hy; simp only [Option.some.injEq] at hy; subst hy
      cases hm : mem i (G.ownp f) with
      | false =>
        rw [hm] at hnp
        simp only [cond_false] at hnp ⊢
        exact disd as[i] hnp
      | true =>
        rw [hm] at hnp
        simp only [cond_true] at hnp ⊢
        rcases evA_ok hI as[i] with ⟨t, ht, h1, h2⟩ | ⟨h1, h2', _⟩
        · rw [h1, h2]
          have := hI.slots t
          rw [h1] at hnp
          exact AR.lab (f := fw) (fun j => by simp only [fw]; rw [hai i t (by rw [hasi, ht]) hm]) (fun k off e => absurd e (hnp k off)) this
        have hd := disd as[i] (by rw [h2']; exact hnp)
        rwa [h2'] at hd
    rcases passA_spec vs 0 i x hx with ⟨k, off, m, h1, h2, h3⟩ | ⟨h1, h2⟩
    · subst h2
      rw [hkeys] at h3
      obtain ⟨x0, h0, hle⟩ := czArgs_get G.P vs0 tys.toList i _ (by rw [hvs]; exact h1)
      have h1 : vs0[i]? = some (.pt k off) := by rw [h0, (hle.2 k off).1 rfl]
      have hev : evA fr as[i] = .pt k off := by
        rw [hvi] at h1; simp only [Option.some.injEq] at h1
        cases hm : mem i (G.ownp f) with
        | true => rw [hm] at h1; exact h1
        | false => rw [hm] at h1; simp only [cond_false] at h1; cases hf : evA fr as[i] <;> rw [hf] at h1 <;> simp [AV.dis] at h1 ⊢; exact h1
      obtain ⟨⟨b, hb, hv'⟩, _⟩ := evA_pt hI hev
      exact ⟨b, by simp only [μc, Nat.zero_add, h3]; exact hb, hv'⟩
    obtain ⟨x0, h0, hle⟩ := czArgs_get G.P vs0 tys.toList i _ (by rw [hvs]; exact h1)
    exact hle.1 _ _ _ _ _ (base x0 h0 (fun k off e => h2 k off ((hle.2 k off).2 e)))
  have hobj : ORep (relab who fw) μc w (cs.map some) := by
    intro i c hi
    rw [List.getElem?_map] at hi
    cases hci : cs[i]? with
    | none => rw [hci] at hi; simp at hi
    | some c' =>
      rw [hci] at hi; simp at hi; subst hi
      have hlt : i < keys.length := by rw [← hcl]; exact (List.getElem?_eq_some_iff.1 hci).1
      have hki : keys[i]? = some keys[i] := List.getElem?_eq_getElem hlt
      obtain ⟨b, arr, ty, h1, h2, h3, h4, h5, h6⟩ := hI.objs keys[i] c' (hcs i _ _ hki hci)
      have hix := idxOf_nd keys keys[i] i hnd.1 hki
      refine ⟨b, arr, ty, by simp only [μc, hki]; exact h1, h2, h3, h4, fun o => by simp [relab, h5 o, fw, hix], fun j x y hx hy => ⟨hro ▸ (h6 j x y hx hy).1, ?_⟩⟩
      have hO := (h6 j x y hx hy).2
      unfold OwnS at hO ⊢; split
      · rcases hO with h | ⟨g, cap, cur, e, a1, a2, a3, a4, a5, a6, a7⟩
        · exact .inl h
        exact .inr ⟨g, cap, cur, e, a1, a2, a3, a4, a5, a6, fun o ho => by simp [relab, a7 o ho, fw, hix]⟩
      trivial
  have hcall := hF (relab who fw) μc w (as.map a.eval) (hI.fresh.relab fw) (by rw [hvl]; simp) hargs (fun i k off h => by rw [hcl]; have := passA_lt vs 0 i k off h; rw [hkeys] at this; omega) hobj
  obtain ⟨fn, hfn, hname, hbody⟩ := hE
  have hrun : (execOp a.eval o).run G.P w = .ok (.enter f (as.map a.eval).toArray) w := by
    rw [execOp, he]
    simp only [resolve, Act.eval, Deferred.ofValue, invoke, callFunc, Sem.run_bind, Sem.run_pure, Result.andThen_ok, run_program, hfn, hname, hbody, Bool.false_eq_true, if_false]
    simp
  unfold Oper.wp; rw [hrun]
  refine Calls.mono hcall fun en w' hpost => ?_
  obtain ⟨v, who', rfl, hF', hP', hv, hob'⟩ := hpost
  show K (a.put o.dst v) w'
  let dd := o.dst.getD 0
  let whoA : Who := fun b o => match who' b o with
    | none => none
    | some (.slot t j) => if t = 0 then some (.slot dd j) else some .junk
    | some (.blk i) => match keys[i]? with | some k => some (.blk k) | none => some .junk
    | some (.cell i j) => match keys[i]? with | some k => some (.cell k j) | none => some .junk
    | some .junk => some .junk
    | some .rest => who b o
  have hrest : ∀ b o, b < w.heap.size → relab who fw b o = some .rest → whoA b o = who b o := fun b o hb h => by
    simp only [whoA]; rw [(hP'.rest b o hb).1 h]
  have hPA : Pres who w whoA w' := by
    refine ⟨hP'.size, hP'.os, hP'.tape, hP'.output, fun b hb => (hP'.blk b hb).weak fun o ho => ?_, fun b o hb h => ?_, fun b o hb => ⟨fun h => ?_, fun h => ?_⟩, fun b o hb h => ?_⟩
    · rcases ho with h | h
      · exact .inl (by simp [relab, h])
      exact .inr (by simp [relab, h, fw])
    · simp only [whoA]; rw [hP'.ro b o hb (by simp [relab, h])]
    · rw [hrest b o hb (by simp [relab, h, fw]), h]
    · simp only [whoA] at h
      split at h
      · cases h
      · split at h <;> simp at h
      · split at h <;> simp at h
      · split at h <;> simp at h
      · simp at h
      exact h
    have hn := hP'.new b o hb
    simp only [whoA] at h
    split at h
    · cases h
    · split at h <;> simp at h
    · split at h <;> simp at h
    · split at h <;> simp at h
    · simp at h
    rename_i e; exact hn e
  have hFA : Fresh whoA w' := fun b o hb => by simp only [whoA]; rw [hF' b o hb]
  have hroA : ∀ b o, who' b o = none → whoA b o = none := fun b o h => by simp only [whoA]; rw [h]
  -- values of the callee's, with the labels turned back
  have backS : ∀ (p p' : Pl) (x : DV) (u : Value), (∀ b o, who' b o = some p → whoA b o = some p') → OwnS (fun b o => who' b o = some p) w' x u → OwnS (fun b o => whoA b o = some p') w' x u := fun p p' x u hp h => by
    unfold OwnS at h ⊢; split
    · rcases h with h | ⟨g, cap, cur, e, a1, a2, a3, a4, a5, a6, a7⟩
      · exact .inl h
      exact .inr ⟨g, cap, cur, e, a1, a2, a3, a4, a5, a6, fun o ho => hp g o (a7 o ho)⟩
    trivial
  have backD : ∀ (x : DV) (u : Value), Dat (Ro who') w' x u → Dat (Ro whoA) w' x u := fun x u h => h.imp fun b o hb _ => ⟨hroA b o hb, rfl⟩
  have hres : AR whoA μ w' (.slot dd) (.d r.1) v := by
    refine ⟨backD _ _ hv.1, ?_⟩
    have h2 := hv.2
    have hl : ∀ j b o, who' b o = some (.slot 0 j) → whoA b o = some (.slot dd j) := fun j b o h => by simp only [whoA]; rw [h]; simp
    cases h : r.1 with
    | tu l => rw [h] at h2; exact fun vs hvs j y u hy hu => backS _ _ y u (hl j) (h2 vs hvs j y u hy hu)
    | v y => exact OwnA.v
    | ag y => simp [OwnA, OwnS]
    | sl y1 y2 y3 => rw [h] at h2; exact backS _ _ (.sl y1 y2 y3) v (hl 0) h2
  have hzk : (keys.zip r.2).map (·.1) = keys := by rw [List.map_fst_zip]; omega
  -- what is left of the slots
  have hslot : ∀ t, (∃ j, as[j]? = some (Operand.tmp t) ∧ mem j (G.ownp f) = true) ∨ ∀ j, fw (.slot t j) = .rest := fun t => by
    cases h : ai t with
    | some i => exact .inl ⟨i, hai2 t i h⟩
    | none => exact .inr fun j => by simp only [fw, h]
  have hμp : ∀ k off x, x = AV.pt k off → μ k = μ k := fun _ _ _ _ => rfl
  have htake : ∀ t, AR whoA μ w' (.slot t) (fr t).dis (a.tmps.getD t undef) := fun t => AR.dis_pres hPA (fun _ _ _ => rfl) (hI.slots t)
  have hkeep : ∀ t, (∀ j, fw (.slot t j) = .rest) → AR whoA μ w' (.slot t) (fr t) (a.tmps.getD t undef) := fun t h =>
    (hI.slots t).pres hPA (fun j b o hb hw => by rw [hrest b o hb (by simp [relab, hw, h j])]; exact hw) (fun _ _ _ => rfl)
  have hsub : ∀ t, AR whoA μ w' (.slot t) (putL fr (argTakes (G.ownp f) as 0 fr) t) (a.tmps.getD t undef) ∧ (∀ k off, putL fr (argTakes (G.ownp f) as 0 fr) t = .pt k off → fr t = .pt k off) := fun t => by
    by_cases hm : t ∈ (argTakes (G.ownp f) as 0 fr).map (·.1)
    · rw [putL_in _ fr t ((fr t).dis) (fun x hx => (argTakes_mem _ _ _ _ _ _ hx).1) hm]
      exact ⟨htake t, fun k off h => by cases hf : fr t <;> rw [hf] at h <;> simp [AV.dis] at h ⊢; exact h⟩
    rw [putL_out _ fr t hm]
    refine ⟨hkeep t ?_, fun k off h => h⟩
    rcases hslot t with ⟨j, h1, h2⟩ | h
    · exact absurd (List.mem_map.2 ⟨_, argTakes_has _ fr as 0 t j h1 (by rw [Nat.zero_add]; exact h2), rfl⟩) hm
    exact h
  subst hout
  refine hk whoA μ w' _ ?_ hPA (fun _ _ => rfl) (by cases o.dst <;> rfl)
  refine ⟨hFA, by cases hd : o.dst <;> simp [Act.put, hI.size], fun t => ?_, fun t k off h => ?_, fun k c hkc => ?_⟩
  · cases hd : o.dst with
    | none => simp only [List.append_nil, Act.put]; exact (hsub t).1
    | some d =>
      have hdd : dd = d := by simp [dd, hd]
      simp only [Act.put]
      rw [put_getD (by rw [hI.size]; exact hN d hd), putL_append]
      simp only [putL]
      by_cases e : t = d
      · subst e; rw [Fr.put_same, if_pos rfl, ← hdd]; exact hres
      rw [Fr.put_ne _ _ e, if_neg e]; exact (hsub t).1
  · have hfr : ∃ k' off', fr t = .pt k' off' ∧ k' = k := by
      cases hd : o.dst with
      | none => rw [hd] at h; simp only [List.append_nil] at h; exact ⟨k, off, (hsub t).2 k off h, rfl⟩
      | some d =>
        rw [hd, putL_append] at h
        simp only [putL] at h
        by_cases e : t = d
        · subst e; rw [Fr.put_same] at h; cases h
        rw [Fr.put_ne _ _ e] at h; exact ⟨k, off, (hsub t).2 k off h, rfl⟩
    obtain ⟨k', off', h1, rfl⟩ := hfr
    obtain ⟨c, hc⟩ := hI.live t k' off' h1
    exact setL_some _ _ _ c hc
  by_cases hm : k ∈ keys
  · obtain ⟨i, hi⟩ := List.getElem?_of_mem hm
    have hil : i < keys.length := (List.getElem?_eq_some_iff.1 hi).1
    have hri : r.2[i]? = some r.2[i] := List.getElem?_eq_getElem (by omega)
    have hz : (keys.zip r.2)[i]? = some (k, r.2[i]) := by rw [List.getElem?_zip_eq_some]; exact ⟨hi, hri⟩
    obtain ⟨c0, hc0⟩ : ∃ c0, cs[i]? = some c0 := ⟨cs[i]'(by omega), List.getElem?_eq_getElem _⟩
    have hkl : k < ob.length := (List.getElem?_eq_some_iff.1 (hcs i k c0 hi hc0)).1
    have := setL_in (keys.zip r.2) ob i k r.2[i] (by rw [hzk]; exact hnd.1) hz hkl
    rw [this] at hkc; simp at hkc; subst hkc
    obtain ⟨b, arr, ty, h1, h2, h3, h4, h5, h6⟩ := hob' i r.2[i] (by rw [List.getElem?_map, hri]; rfl)
    refine ⟨b, arr, ty, by simpa [μc, hi] using h1, h2, h3, h4, fun o => by simp only [whoA]; rw [h5 o]; simp only [hi], fun j x y hx hy => ⟨backD _ _ (h6 j x y hx hy).1, backS _ _ x y (fun b o h => by simp only [whoA]; rw [h]; simp only [hi]) (h6 j x y hx hy).2⟩⟩
  rw [setL_out _ _ _ (by rw [hzk]; exact hm)] at hkc
  have hno : idxOf k keys = none := idxOf_none keys k hm
  have hOb := hI.objs k c hkc
  refine ObjR.pres hPA rfl (fun b hb => ?_) (fun j b o hb h => by rw [hrest b o hb (by simp [relab, h, fw, hno])]; exact h) hOb
  obtain ⟨b', arr, ty, g1, g2, g3, g4, g5, _⟩ := hOb
  have e3 : b = b' := by rw [hb] at g1; cases g1; rfl
  subst e3
  have hlt := heap_lt g2
  have hall : ∀ o, relab who fw b o = some .rest := fun o => by simp [relab, g5 o, fw, hno]
  exact ⟨BP.all g2 ((hP'.blk b hlt).weak fun o _ => .inr (hall o)), fun o h => by rw [hrest b o hlt (hall o)]; exact h⟩
end
end Go.Proofs.YtcfoebkbahpnaaaGreat.Ab
