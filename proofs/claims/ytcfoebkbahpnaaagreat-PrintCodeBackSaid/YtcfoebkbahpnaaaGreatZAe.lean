/- Literals, tests, slices of values without memory. -/
import Derived.Test.YtcfoebkbahpnaaaGreatZAd
set_option linter.unusedVariables false
set_option linter.unusedSimpArgs false
namespace Go.Proofs.YtcfoebkbahpnaaaGreat.Ab
open Go
section
variable {P : Program} {D : Nat → Nat → Prop} {w : World}

def over : List Value → Nat → List Value → List Value
  | vs, _, [] => vs
  | vs, o, x :: r => over (vs.set o x) (o + 1) r
theorem over_cons (v:Value): ∀ (us vs:List Value) (o:Nat),over (v::vs) (o+1) us=v::over vs o us
 | [],_,_=>rfl
 |u::us,vs,o=>by simp only[over,List.set_cons_succ];exact over_cons v us _ _
theorem fold_over (off:Nat): ∀ (l:List Value) (k:Nat) (arr:Array Value),
 ((l.zipIdx k).foldl (fun cs (p:Value × Nat)=>cs.setIfInBounds (off+p.2) p.1) arr).toList=over arr.toList (off+k) l
 | [],_,_=>rfl
 |x::r,k,arr=>by simp only[List.zipIdx_cons,List.foldl_cons,over];rw[fold_over off r (k+1)];simp[Nat.add_assoc]
theorem setAt_ok: ∀ (cs:List DV) (off:Nat) (xs cs':List DV) (vs us:List Value),setAt cs off xs=some cs'→CV D w cs vs→CV D w xs us→CV D w cs' (over vs off us)
 |cs,0,[],cs',vs,us,h,hc,hu=>by
  have:us= []:=List.length_eq_zero_iff.1 hu.1;have e:setAt cs 0 []=some cs:=by cases cs<;>rfl
  rw[e]at h;cases h;subst this;exact hc
 |c::cs,0,x::xs,cs',vs,us,h,hc,hu=>by
  obtain⟨v,vs',rfl,h1,h2,h3⟩:=hc.uncons;obtain⟨u,us',rfl,k1,k2,k3⟩:=hu.uncons;simp only[setAt,Option.map_eq_some_iff]at h;obtain⟨l,hl,rfl⟩:=h;simp only[over,List.set_cons_zero];rw[over_cons];exact CV.cons k1 k2 (setAt_ok cs 0 xs l vs' us' hl h3 k3)
 |c::cs,n+1,xs,cs',vs,us,h,hc,hu=>by
  obtain⟨v,vs',rfl,h1,h2,h3⟩:=hc.uncons;simp only[setAt,Option.map_eq_some_iff]at h;obtain⟨l,hl,rfl⟩:=h;rw[over_cons];exact CV.cons h1 h2 (setAt_ok cs n xs l vs' us hl h3 hu)
 | [],n+1,xs,cs',vs,us,h,hc,hu=>by simp[setAt]at h
 | [],0,x::xs,cs',vs,us,h,hc,hu=>by simp[setAt]at h
theorem setAt_len: ∀ (cs:List DV) (off:Nat) (xs cs':List DV),setAt cs off xs=some cs'→off+xs.length≤cs.length
 |cs,0,[],cs',h=>by simp
 |c::cs,0,x::xs,cs',h=>by
  simp only[setAt,Option.map_eq_some_iff]at h;obtain⟨l,hl,rfl⟩:=h;have:=setAt_len cs 0 xs l hl;simp at this ⊢;omega
 |c::cs,n+1,xs,cs',h=>by
  simp only[setAt,Option.map_eq_some_iff]at h;obtain⟨l,hl,rfl⟩:=h;have:=setAt_len cs n xs l hl;simp at this ⊢;omega
 | [],n+1,xs,cs',h=>by simp[setAt]at h
 | [],0,x::xs,cs',h=>by simp[setAt]at h
theorem over_length: ∀ (us vs:List Value) (o:Nat),(over vs o us).length=vs.length
 | [],_,_=>rfl
 |u::us,vs,o=>by simp only[over];rw[over_length];simp
/-- Parts of a literal. -/
def PV (D : Nat → Nat → Prop) (w : World) (l : List (Nat × DV)) (k : List (Nat × Value)) : Prop :=
  k.length = l.length ∧ ∀ (i : Nat) (p : Nat × DV) (q : Nat × Value), l[i]? = some p → k[i]? = some q → p.1 = q.1 ∧ Dat D w p.2 q.2 ∧ (∀ cs, p.2 ≠ .tu cs)
theorem fill_ok {place:Nat→Option (Nat × Nat)}: ∀ (l:List (Nat × DV)) (k:List (Nat × Value)) (cs cs':List DV) (arr:Array Value),fillA place l cs=some cs'→PV D w l k→CV D w cs arr.toList→
 ∃ arr':Array Value,Instr.fill place arr k=some arr'∧CV D w cs' arr'.toList∧arr'.size=arr.size
 | [],k,cs,cs',arr,h,hk,hc=>by
  have:k= []:=List.length_eq_zero_iff.1 hk.1;subst this;simp[fillA]at h;subst h;exact⟨arr,rfl,hc,rfl⟩
 |(i,x)::l,k,cs,cs',arr,h,hk,hc=>by
  cases k with
  |nil=>have:=hk.1;simp at this
  |cons q k=>
   obtain⟨j,v⟩:=q;obtain⟨h1,h2,h3⟩:=hk.2 0 (i,x) (j,v) rfl rfl;simp only at h1 h2 h3;subst h1;simp only[fillA]at h;split at h
   ·cases h
   rename_i off n hp;obtain⟨hn,h⟩:=bif_some h;split at h
   ·rename_i cs1 hs;have hcv:=(h2.cells h3);have hlen:v.cells.size=n:=by
     have:=Nat.eq_of_beq_eq_true hn;have h4:=hcv.1;simp at h4;omega
    have hle:=setAt_len _ _ _ _ hs;have hcl:=hc.1;have hle2:off+v.cells.size≤arr.size:=(by simp at hle hcl;have h4:=hcv.1;simp at h4;omega);have hov:=setAt_ok _ _ _ _ _ _ hs hc hcv.dis1;rw[show over arr.toList off v.cells.toList=(v.cells.zipIdx.foldl (fun cs (p:Value × Nat)=>cs.setIfInBounds (off+p.2) p.1) arr).toList from by
     rw[← Array.foldl_toList,Array.toList_zipIdx,fold_over];rfl]at hov
    obtain⟨arr',e1,e2,e3⟩:=fill_ok l k cs1 cs' _ h ⟨by have:=hk.1;simp at this;exact this,fun i p q hp hq=>hk.2 (i+1) p q (by simpa using hp) (by simpa using hq)⟩ hov;refine⟨arr',?_,e2,?_⟩
    ·simp only[Instr.fill,hp,hlen,ne_eq,not_true_eq_false,decide_false,Bool.false_or];rw[if_neg (by simp;omega)];exact e1
    rw[e3];have: ∀ (l:List (Value × Nat)) (a:Array Value),(l.foldl (fun cs (p:Value × Nat)=>cs.setIfInBounds (off+p.2) p.1) a).size=a.size:=by
     intro l;induction l with
     |nil=>intro a;rfl
     |cons p r ih=>intro a;rw[List.foldl_cons,ih];simp
    rw[← Array.foldl_toList,this]
   cases h
theorem places_run (fs:Array Field) (pl:List (Nat × Nat)) (h:placesA P fs.toList=some pl):
 ∃ ps:Array (Nat × Nat),(fs.mapM fun(f:Field)=>(do pure (f.offset,← sizeOf f.type):Sem (Nat × Nat))).run P w= .ok ps w∧ps.toList=pl:=by
 have hl: ∀ (l:List Field) (pl:List (Nat × Nat)),placesA P l=some pl→(l.mapM fun(f:Field)=>(do pure (f.offset,← sizeOf f.type):Sem (Nat × Nat))).run P w= .ok pl w:=by
  intro l;induction l with
  |nil=>intro pl h;simp[placesA]at h;subst h;simp
  |cons f r ih=>
   intro pl h;simp only[placesA]at h;split at h
   ·rename_i n l' hn hl';simp at h;subst h;have:=ih l' hl';simp only[List.mapM_cons,Sem.run_bind,sizeOf_run hn,Result.andThen_ok,Sem.run_pure,this]
   cases h
 have h1:=hl _ _ h;rw[← Array.toList_mapM,Sem.run_map]at h1;cases hr:(fs.mapM fun(f:Field)=>(do pure (f.offset,← sizeOf f.type):Sem (Nat × Nat))).run P w with
 |ok ps w'=>rw[hr]at h1;simp at h1;obtain⟨e1,rfl⟩:=h1;exact⟨ps,rfl,e1⟩
 |halt x w'=>rw[hr]at h1;simp at h1
theorem build_ok {t:TypeId} {l:List (Nat × DV)} {k:Array (Nat × Value)} {z:DV} (h:buildA P t l=some z) (hk:PV D w l k.toList):
 ∃ v,(Instr.build t k).run P w= .ok v w∧Dat D w z v∧(∀ l,z≠ .tu l)∧ ∀ p:Nat→Nat→Nat→Prop,OwnA p w z v:=by
 unfold buildA at h;split at h
 ·rename_i zc fs hz hu;obtain⟨v,hv,hd,_,_⟩:=zeroT_ok (D:=D) (w:=w) hz;obtain⟨arr,rfl,hc⟩:=hd.ag_inv;split at h;case h_2=>cases h
  rename_i pl hpl;rw[Option.map_eq_some_iff]at h;obtain⟨cs',h,rfl⟩:=h;obtain⟨arr',h1,h2,h3⟩:=fill_ok l k.toList zc cs' arr h hk hc;refine⟨.agg arr',?_,h2.toDat,fun l=>by simp,fun p=>by simp[OwnA,OwnS]⟩;obtain⟨ps,hp1,hp2⟩:=places_run (w:=w) fs pl hpl;(have he:(fun i=>ps[i]?)=fun i=>pl[i]?:=funext fun i=>by rw[← hp2,Array.getElem?_toList]);simp only[Instr.build,Sem.run_bind,hv,Result.andThen_ok,underlying_run hu,hp1,Value.cells];rw[show Instr.fill (fun x=>ps[x]?) arr k.toList=some arr' from by rw[he];exact h1];rfl
 ·rename_i zc len e hz hu;obtain⟨v,hv,hd,_,_⟩:=zeroT_ok (D:=D) (w:=w) hz;obtain⟨arr,rfl,hc⟩:=hd.ag_inv;rw[Option.bind_eq_some_iff]at h;obtain⟨n,hn,h⟩:=h;rw[Option.map_eq_some_iff]at h;obtain⟨cs',h,rfl⟩:=h;obtain⟨arr',h1,h2,h3⟩:=fill_ok l k.toList zc cs' arr h hk hc;refine⟨.agg arr',?_,h2.toDat,fun l=>by simp,fun p=>by simp[OwnA,OwnS]⟩;simp only[Instr.build,Sem.run_bind,hv,Result.andThen_ok,underlying_run hu,sizeOf_run hn,Value.cells];rw[h1];rfl
 cases h
/-! Slices -/
theorem repl_len: ∀ (k:Nat) (l:List DV),(repl k l).length=k*l.length
 |0,l=>by simp[repl]
 |k+1,l=>by simp[repl,repl_len k l,Nat.succ_mul,Nat.add_comm]
def replV : Nat → List Value → List Value
  | 0, _ => []
  | k + 1, l => l ++ replV k l
theorem repl_ok {l:List DV} {vs:List Value} (h:CV D w l vs): ∀ k,CV D w (repl k l) (replV k vs)
 |0=> .nil
 |k+1=>h.append (repl_ok h k)
theorem replV_get (vs:List Value) (hp:0<vs.length): ∀ (k i:Nat),i<k*vs.length→(replV k vs)[i]? =vs[i % vs.length]?
 |0,i,h=>by simp at h
 |k+1,i,h=>by
  simp only[replV];rw[List.getElem?_append];split
  ·rename_i hi;rw[Nat.mod_eq_of_lt hi]
  rename_i hi;rw[replV_get vs hp k (i - vs.length) (by rw[Nat.succ_mul]at h;omega)];congr 1;exact(Nat.mod_eq_sub_mod (by omega)).symm
theorem chunk_len (n:Nat): ∀ (k:Nat) (l:List DV),(chunk n k l).length=k
 |0,_=>rfl
 |k+1,l=>by simp[chunk,chunk_len n k]
theorem asSl_ok {x:DV} {v:Value} {o:Bool} {n:Nat} {r:List (List DV)} (h:asSl x=some (o,n,r)) (hd:Dat D w x v):
 ∃ A cap,v= .slice A r.length cap∧Dat D w (.sl o n r) v:=by
 unfold asSl at h;split at h
 ·simp at h;obtain⟨rfl,rfl,rfl⟩:=h;cases hd with
  |sl c a b cc d e=>exact⟨_,_,rfl,.sl c a b cc d e⟩
 ·simp at h;obtain⟨rfl,rfl,rfl⟩:=h;cases hd with
  |v h1=>exact⟨none,0,rfl,.sl (rows:= []) (fun _=>undef) (by simp) (fun r hr=>by cases hr) (fun h=>by simp at h) (fun b o q e hq=>by simp at hq) fun i j r x hx=>by simp at hx⟩
 cases h
/-- The cells of a row of a slice. -/
theorem sl_row {o:Bool} {n:Nat} {r:List (List DV)} {A:Option Addr} {len cap:Nat} (h:Dat D w (.sl o n r) (.slice A len cap)) {i:Nat} {row:List DV} (hr:r[i]? =some row):
 ∃ b off,A=some ⟨b,off,none⟩∧row.length=n∧CA D w b (off+i*n) row∧ ∀ q,q<n→D b (off+i*n+q):=by
 cases h with
 |sl c hcap hrow hA hc hd=>
  have hi:i<r.length:=(List.getElem?_eq_some_iff.1 hr).1;obtain⟨h0,b,off,rfl⟩:=hA (by omega);have hrn:=hrow row (List.mem_of_getElem? hr);have hq: ∀ q,q<n→i*n+q<r.length*n:=fun q hq=>by
   have:(i+1)*n≤r.length*n:=Nat.mul_le_mul_right _ hi;rw[Nat.succ_mul]at this;omega
  refine⟨b,off,rfl,hrn,fun q x hx=>?_,fun q h=>by have:=hc b off (i*n+q) rfl (hq q h);rw[Nat.add_assoc];exact this.1⟩;have hqn:q<n:=(by rw[← hrn];exact(List.getElem?_eq_some_iff.1 hx).1);obtain⟨h1,h2,h3⟩:=hc b off (i*n+q) rfl (hq q hqn);exact⟨_,by rw[Nat.add_assoc];exact h2,h3,hd i q row x hr hx⟩
/-- All cells of a slice. -/
theorem sl_cells {o : Bool} {n : Nat} {r : List (List DV)} {A : Option Addr} {len cap : Nat} (h : Dat D w (.sl o n r) (.slice A len cap)) :
    ∃ vs, CV D w r.flatten vs ∧ vs.length = r.length * n ∧ (∀ b off, A = some ⟨b, off, none⟩ → ∀ j v, vs[j]? = some v → w.cell? ((⟨b, off, none⟩ : Addr).add j) = some v) ∧ (A = none → r = []) ∧ (∀ a, A = some a → 0 < r.length → a = ⟨a.block, a.off, none⟩) := by
  cases h with
  | sl c hcap hrow hA hc hd =>
    have hfl : ∀ r : List (List DV), (∀ q ∈ r, q.length = n) → r.flatten.length = r.length * n := by
      intro r; induction r with
      | nil => intro _; simp
      | cons a r ih => intro h; simp only [List.flatten_cons, List.length_append, List.length_cons, Nat.succ_mul]; rw [ih fun q hq => h q (by simp [hq]), h a (by simp)]; omega
    have hget : ∀ (r : List (List DV)), (∀ q ∈ r, q.length = n) → ∀ (p : Nat) (x : DV), r.flatten[p]? = some x → ∃ row, r[p / n]? = some row ∧ row[p % n]? = some x := by
      intro r; induction r with
      | nil => intro _ p x hx; simp at hx
      | cons a r ih =>
        intro h p x hx
        have ha := h a (by simp)
        rw [List.flatten_cons, List.getElem?_append] at hx
        split at hx
        · rename_i hp; rw [ha] at hp; rw [Nat.div_eq_of_lt hp, Nat.mod_eq_of_lt hp]; exact ⟨a, rfl, hx⟩
        rename_i hp; rw [ha] at hp hx
        have hn : 0 < n := by
          rcases Nat.eq_zero_or_pos n with h0 | h0
          · have := hfl r (fun q hq => h q (by simp [hq])); rw [h0, Nat.mul_zero] at this
            rw [List.length_eq_zero_iff.1 this] at hx; simp at hx
          exact h0
        obtain ⟨row, h1, h2⟩ := ih (fun q hq => h q (by simp [hq])) (p - n) x hx
        have hd1 : p / n = (p - n) / n + 1 := by rw [Nat.div_eq_sub_div hn (by omega)]
        have hm1 : p % n = (p - n) % n := by rw [Nat.mod_eq_sub_mod (by omega)]
        rw [hd1, hm1]; exact ⟨row, h1, h2⟩
    have hl := hfl r hrow
    refine ⟨(List.range (r.length * n)).map c, ⟨by simp [hl], ?_, ?_⟩, by simp, ?_, ?_, ?_⟩
    · intro y hy
      obtain ⟨q, hq, rfl⟩ := List.mem_map.1 hy
      have hq := List.mem_range.1 hq
      have h0 : 0 < r.length := by rcases Nat.eq_zero_or_pos r.length with h0 | h0; · rw [h0] at hq; simp at hq
                                   · exact h0
      obtain ⟨_, b, off, rfl⟩ := hA h0
      exact (hc b off q rfl hq).2.2
    · intro i x y hx hy
      have hi : i < r.length * n := by rw [← hl]; exact (List.getElem?_eq_some_iff.1 hx).1
      rw [List.getElem?_map, List.getElem?_range hi] at hy
      simp at hy; subst hy
      obtain ⟨row, h1, h2⟩ := hget r hrow i x hx
      have := hd (i / n) (i % n) row x h1 h2
      rwa [Nat.div_add_mod'] at this
    · rintro b off rfl j v hv
      have hj : j < r.length * n := by have := (List.getElem?_eq_some_iff.1 hv).1; simpa using this
      rw [List.getElem?_map, List.getElem?_range hj] at hv
      simp at hv; subst hv
      have hadd : (⟨b, off, none⟩ : Addr).add j = ⟨b, off + j, none⟩ := by unfold Addr.add; split <;> simp_all
      rw [hadd]; exact (hc b off j rfl hj).2.1
    · intro hn
      rcases Nat.eq_zero_or_pos r.length with h0 | h0
      · exact List.length_eq_zero_iff.1 h0
      obtain ⟨_, b, off, h⟩ := hA h0; rw [hn] at h; cases h
    rintro a rfl h0
    obtain ⟨_, b, off, h⟩ := hA h0; cases h; rfl
/-- A slice off its cells. -/
theorem sl_mk {o:Bool} {n:Nat} {r:List (List DV)} {b off cap:Nat} {vs:List Value} (hcap:r.length≤cap) (hrow: ∀ q ∈ r,q.length=n) (h0:0<r.length→0<n)
 (hv:CV D w r.flatten vs) (hc: ∀ q,q<r.length*n→D b (off+q)∧ ∀ v,vs[q]? =some v→w.cell? ⟨b,off+q,none⟩=some v):Dat D w (.sl o n r) (.slice (some ⟨b,off,none⟩) r.length cap):=by
 have hfl: ∀ r:List (List DV),(∀ q ∈ r,q.length=n)→r.flatten.length=r.length*n:=by
  intro r;induction r with
  |nil=>intro _;simp
  |cons a r ih=>intro h;simp only[List.flatten_cons,List.length_append,List.length_cons,Nat.succ_mul];rw[ih fun q hq=>h q (by simp[hq]),h a (by simp)];omega
 have hget: ∀ (r:List (List DV)),(∀ q ∈ r,q.length=n)→ ∀ (i j:Nat) (row:List DV) (x:DV),r[i]? =some row→row[j]? =some x→r.flatten[i*n+j]? =some x:=by
  intro r;induction r with
  |nil=>intro _ i j row x h;simp at h
  |cons a r ih=>
   intro h i j row x h1 h2;have ha:=h a (by simp);rw[List.flatten_cons,List.getElem?_append];cases i with
   |zero=>
    simp at h1;subst h1;rw[if_pos (by have:=(List.getElem?_eq_some_iff.1 h2).1;omega)];simpa using h2
   |succ i=>
    rw[if_neg (by rw[ha,Nat.succ_mul];omega),ha,show(i+1)*n+j - n=i*n+j from by rw[Nat.succ_mul];omega];exact ih (fun q hq=>h q (by simp[hq])) i j row x (by simpa using h1) h2
 have hl:=hfl r hrow;have hvl:vs.length=r.length*n:=(by rw[hv.1,hl]);refine .sl (fun q=>vs.getD q undef) hcap hrow (fun h=>⟨h0 h,b,off,rfl⟩) ?_ ?_
 ·rintro b' o' q e hq;cases e
  have hvq:vs[q]? =some (vs.getD q undef):=(by rw[List.getD,List.getElem?_eq_getElem (by omega)];rfl);exact⟨(hc q hq).1,(hc q hq).2 _ hvq,hv.2.1 _ (List.mem_of_getElem? hvq)⟩
 intro i j row x h1 h2;have hf:=hget r hrow i j row x h1 h2;have hlt:i*n+j<vs.length:=(by rw[hv.1];exact(List.getElem?_eq_some_iff.1 hf).1);exact hv.2.2 _ x _ hf (by rw[List.getD,List.getElem?_eq_getElem hlt];rfl)
end
end Go.Proofs.YtcfoebkbahpnaaaGreat.Ab
