import Derived.Test.YtcfoebkbahpnaaaGreatZAf
/- One operation of the program against one of the values without memory: those that leave the memory as it is, and those that make memory. -/
set_option linter.unusedVariables false
set_option linter.unusedSimpArgs false
namespace Go.Proofs.YtcfoebkbahpnaaaGreat.Ab
open Go

def relab (who : Who) (f : Pl → Pl) : Who := fun b o => (who b o).map f
theorem Fresh.relab {who:Who} {w:World} (h:Fresh who w) (f:Pl→Pl):Fresh (relab who f) w:=fun b o hb=>by simp[Ab.relab,h b o hb]
theorem Pres.relab {who:Who} {w:World} (h:Fresh who w) {f:Pl→Pl} (hf: ∀ p,f p= .rest ↔ p= .rest):Pres who w (relab who f) w where
 size:=Nat.le_refl _
 os:=rfl
 tape:=rfl
 output:=rfl
 blk b _:=BP.refl _ _
 ro b o _ e:=by simp[Ab.relab,e]
 rest b o _:=by
  simp only[Ab.relab,Option.map_eq_some_iff];exact⟨fun e=>⟨_,e,(hf _).2 rfl⟩,fun⟨p,e,hp⟩=>by rw[e,(hf p).1 hp]⟩
 new b o hb:=by simp[Ab.relab,h b o hb]
theorem ORep.pres {who who':Who} {w w':World} {μ μ':Nat→Option Nat} {ob:Ob} (h:Pres who w who' w') (hμ: ∀ k cs,ob[k]? =some (some cs)→μ' k=μ k)
 (hb: ∀ k cs b,ob[k]? =some (some cs)→μ k=some b→b<w.heap.size→w'.heap[b]? =w.heap[b]?) (hl: ∀ b o k,b<w.heap.size→who b o=some (.blk k)→who' b o=some (.blk k))
 (hc: ∀ b o k j,b<w.heap.size→who b o=some (.cell k j)→who' b o=some (.cell k j)) (ho:ORep who μ w ob):ORep who' μ' w' ob:=fun k cs hk=>by
 have hd:=ho k cs hk;obtain⟨b,arr,ty,h1,h2,h3⟩:=hd;exact ObjR.pres h (hμ k cs hk) (fun b' hb'=>by
  have e:b'=b:=by rw[h1]at hb';cases hb';rfl
  subst e;exact⟨hb k cs b' hk h1 (heap_lt h2),fun o=>hl b' o k (heap_lt h2)⟩) (fun j b o hlt=>hc b o k j hlt) (ho k cs hk)
theorem Inv.upd {who who':Who} {w w':World} {μ μ':Nat→Option Nat} {N:Nat} {fr fr':Fr} {tmps tmps':Array Value} {ob ob':Ob} (hI:Inv who μ w N fr tmps ob) (hP:Pres who w who' w') (hF:Fresh who' w') (sz:tmps'.size=N)
 (hs: ∀ t,(fr' t=fr t∧tmps'.getD t undef=tmps.getD t undef∧(∀ j b o,b<w.heap.size→who b o=some (.slot t j)→who' b o=some (.slot t j))∧ ∀ k off,fr t= .pt k off→μ' k=μ k)∨AR who' μ' w' (.slot t) (fr' t) (tmps'.getD t undef))
 (hl: ∀ t k off,fr' t= .pt k off→ ∃ cs,ob'[k]? =some (some cs)) (ho:ORep who' μ' w' ob'):Inv who' μ' w' N fr' tmps' ob' where
 fresh:=hF
 size:=sz
 slots t:=by
  rcases hs t with ⟨h1,h2,h3,h4⟩|h
  ·rw[h1,h2];exact(hI.slots t).pres hP h3 h4
  exact h
 live:=hl
 objs:=ho
theorem Fr.put_same (fr:Fr) (t:Nat) (x:AV):fr.put t x t=x:=by simp[Fr.put]
theorem Fr.put_ne (fr:Fr) {t u:Nat} (x:AV) (h:u≠t):fr.put t x u=fr u:=by
 simp only[Fr.put];cases e:Nat.beq t u with
 |true=>exact absurd (Nat.eq_of_beq_eq_true e).symm h
 |false=>rfl
theorem put_getD {a:Array Value} {d t:Nat} {v:Value} (h:d<a.size):(a.setIfInBounds d v).getD t undef=if t=d then v else a.getD t undef:=by
 rw[Array.getD_eq_getD_getElem?,Array.getD_eq_getD_getElem?,Array.getElem?_setIfInBounds];by_cases e:d=t
 ·subst e;simp[h]
 simp[e,Ne.symm e]
/-- What must hold of all that may follow. -/
def StepK (who : Who) (μ : Nat → Option Nat) (w : World) (N n0 : Nat) (fr : Fr) (ob : Ob) (q : Delta) (ds : List Deferred) (K : Act → World → Prop) : Prop :=
  ∀ who' μ' w' (a' : Act), Inv who' μ' w' N (putL fr q.sl) a'.tmps (setL ob q.ob) → Pres who w who' w' → (∀ k, k < n0 → μ' k = μ k) → a'.defers = ds → K a' w'

section
variable {who : Who} {μ : Nat → Option Nat} {w : World} {N n0 : Nat} {fr : Fr} {a : Act} {ob : Ob} {q : Delta} {P : Program} {o : Oper} {K : Act → World → Prop} {Q : Exit → Act → World → Prop}

theorem Inv.put (hI:Inv who μ w N fr a.tmps ob) {d:Nat} {x:AV} {v:Value} (hd:d<N) (hx:AR who μ w (.slot d) x v) (hl: ∀ k off,x= .pt k off→ ∃ cs,ob[k]? =some (some cs)):
 Inv who μ w N (fr.put d x) (a.tmps.setIfInBounds d v) ob:=
 hI.upd (Pres.refl hI.fresh) hI.fresh (by simp[hI.size]) (fun t=>by
  rw[put_getD (by rw[hI.size];exact hd)];by_cases e:t=d
  ·subst e;rw[Fr.put_same,if_pos rfl];exact .inr hx
  ·rw[Fr.put_ne _ _ e,if_neg e];exact .inl ⟨rfl,rfl,fun _ _ _ _ h=>h,fun _ _ _=>rfl⟩)
  (fun t k off e=>by
   by_cases h:t=d
   ·subst h;rw[Fr.put_same]at e;exact hl k off e
   rw[Fr.put_ne _ _ h]at e;exact hI.live t k off e) hI.objs
theorem wp_value {v:Value} {w':World} (hr:(execOp a.eval o).run P w= .ok (.value v) w') (h:K (a.put o.dst v) w'):o.wp P a w K Q:=by
 unfold Oper.wp;rw[hr];exact h
theorem wp_skip' {w':World} (hr:(execOp a.eval o).run P w= .ok .skip w') (h:K (a.put o.dst undef) w'):o.wp P a w K Q:=by
 unfold Oper.wp;rw[hr];exact h
theorem evA_ok (hI:Inv who μ w N fr a.tmps ob) (x:Operand):(∃ t,x= .tmp t∧evA fr x=fr t∧a.eval x=a.tmps.getD t undef)∨(∀ p:Nat→Pl,AR who μ w p (evA fr x) (a.eval x))∧(evA fr x).dis=evA fr x∧ ∀ k off,evA fr x≠ .pt k off:=by
 cases x with
 |tmp t=>exact .inl ⟨t,rfl,rfl,rfl⟩
 |const v=>
  right;simp only[evA,Act.eval];split
  ·rename_i y hy;obtain⟨h1,h2,h3,h4⟩:=ofV_ok (D:=Ro who) (w:=w) hy;exact⟨fun p=>⟨h1,h4 _⟩,by simp[AV.dis,h3],fun k off=>by simp⟩
  exact⟨fun p=>trivial,rfl,fun k off=>by simp⟩
 |global g=>exact .inr ⟨fun p=>trivial,rfl,fun k off=>by simp[evA]⟩
 |func f=>exact .inr ⟨fun p=>⟨.v rfl,by simp[OwnA,OwnS]⟩,rfl,fun k off=>by simp[evA]⟩
/-- What an operand holds, for reading. -/
theorem evA_dis (hI:Inv who μ w N fr a.tmps ob) (x:Operand) (p:Nat→Pl):AR who μ w p (evA fr x).dis (a.eval x):=by
 rcases evA_ok hI x with ⟨t,rfl,h1,h2⟩|⟨h1,h2,h3⟩
 ·rw[h1,h2];exact(hI.slots t).dis
 rw[h2];exact h1 p
theorem evA_dat (hI:Inv who μ w N fr a.tmps ob) {x:Operand} {y:DV} (h:evA fr x= .d y):Dat (Ro who) w y (a.eval x):=by
 rcases evA_ok hI x with ⟨t,rfl,h1,h2⟩|⟨h1,h2,h3⟩
 ·have:=hI.slots t;rw[← h1,h]at this;rw[h2];exact this.1
 have:=h1 (.slot 0);rw[h]at this;exact this.1
theorem evA_pt (hI:Inv who μ w N fr a.tmps ob) {x:Operand} {k off:Nat} (h:evA fr x= .pt k off):(∃ b,μ k=some b∧a.eval x= .pointer (some ⟨b,off,none⟩))∧ ∃ cs,ob[k]? =some (some cs):=by
 rcases evA_ok hI x with ⟨t,rfl,h1,h2⟩|⟨h1,h2,h3⟩
 ·have:=hI.slots t;rw[← h1,h]at this;rw[h2];exact⟨this,hI.live t k off (h1 ▸ h)⟩
 exact absurd h (h3 k off)
theorem ret1_ok (hI:Inv who μ w N fr a.tmps ob) {x:AV} {v:Value} (hN: ∀ d,o.dst=some d→d<N) (hq:ret1 o.dst x=some q) (hx: ∀ p:Nat→Pl,AR who μ w p x v) (hl: ∀ k off,x= .pt k off→ ∃ cs,ob[k]? =some (some cs))
 (hr:(execOp a.eval o).run P w= .ok (.value v) w) (hk:StepK who μ w N n0 fr ob q a.defers K):o.wp P a w K Q:=by
 refine wp_value hr ?_;unfold ret1 at hq;cases hd:o.dst with
 |none=>rw[hd]at hq;simp at hq;subst hq;exact hk who μ w a hI (Pres.refl hI.fresh) (fun _ _=>rfl) rfl
 |some d=>
  rw[hd]at hq;simp at hq;subst hq;exact hk who μ w _ (hI.put (hN d hd) (hx _) hl) (Pres.refl hI.fresh) (fun _ _=>rfl) rfl
theorem retD_ok (hI:Inv who μ w N fr a.tmps ob) {x:DV} {v:Value} (hN: ∀ d,o.dst=some d→d<N) (hq:retD o.dst x=some q) (hx:Dat (Ro who) w x v) (ho: ∀ p:Nat→Nat→Nat→Prop,OwnA p w x v)
 (hr:(execOp a.eval o).run P w= .ok (.value v) w) (hk:StepK who μ w N n0 fr ob q a.defers K):o.wp P a w K Q:=
 ret1_ok hI hN hq (fun p=>⟨hx,ho _⟩) (fun k off e=>by cases e) hr hk
theorem OwnA.v {p:Nat→Nat→Nat→Prop} {x v:Value}:OwnA p w (.v x) v:=by simp[OwnA,OwnS]
theorem part_own {t:TypeId} {cs:List DV} {z:DV} {v:Value} (h:partA P t cs=some z) (ht: ∀ l,z≠ .tu l) (p:Nat→Nat→Nat→Prop):OwnA p w z v:=by
 unfold partA at h;split at h
 ·have:=(bif_some h).2;simp at this;subst this;simp[OwnA,OwnS]
 ·split at h
  ·rename_i x r;simp at h;subst h;cases x<;>simp[DV.dis1,OwnA,OwnS]
   exact absurd rfl (ht _)
  cases h
 cases h
theorem fieldA_own {t:TypeId} {x z:DV} {f:Nat} {v:Value} (h:fieldA P t x f=some z) (ht: ∀ l,z≠ .tu l) (p:Nat→Nat→Nat→Prop):OwnA p w z v:=by
 unfold fieldA at h;split at h
 ·split at h
  ·exact part_own h ht p
  cases h
 cases h
theorem indexA_own {t:TypeId} {x z:DV} {i:Int} {v:Value} (h:indexA P t x i=some z) (ht: ∀ l,z≠ .tu l) (p:Nat→Nat→Nat→Prop):OwnA p w z v:=by
 unfold indexA at h;split at h
 ·split at h
  ·exact part_own (bif_some h).2 ht p
  cases h
 ·have:=(bif_some h).2;simp at this;subst this;exact OwnA.v
 cases h
/-- A copy. -/
theorem copy_ok {G:Cfg} {c:FC} {ops:List Oper} (hI:Inv who μ w N fr a.tmps ob) {x:Operand} (hN: ∀ d,o.dst=some d→d<N) (hq:copyA G c ops o.dst fr x=some q)
 (hr:(execOp a.eval o).run P w= .ok (.value (a.eval x)) w) (hk:StepK who μ w N n0 fr ob q a.defers K):o.wp P a w K Q:=by
 refine wp_value hr ?_;unfold copyA at hq;cases hd:o.dst with
 |none=>rw[hd]at hq;cases hq
 |some d=>
  rw[hd]at hq;have hdN:=hN d hd;simp only at hq;split at hq
  ·rename_i t;cases hb:takes G c ops (some d) t && !Nat.beq t d with
   |false=>
    rw[hb]at hq;simp at hq;subst hq;refine hk who μ w _ (hI.put hdN ((hI.slots t).dis) ?_) (Pres.refl hI.fresh) (fun _ _=>rfl) rfl;intro k off e;refine hI.live t k off ?_;cases hf:fr t<;>rw[hf]at e<;>simp[AV.dis]at e ⊢;exact e
   |true=>
    rw[hb]at hq;simp at hq;subst hq;rw[Bool.and_eq_true]at hb;(have htd:t≠d:=fun e=>by subst e;simp at hb);let f:Pl→Pl:=fun p=>match p with| .slot t' j=>if t'=t then .slot d j else .slot t' j|p=>p
    have hf: ∀ p,f p= .rest ↔ p= .rest:=by intro p;cases p<;>simp[f];split<;>simp
    have hP:=Pres.relab hI.fresh hf;refine hk (relab who f) μ w _ ?_ hP (fun _ _=>rfl) rfl;refine hI.upd hP (hI.fresh.relab f) (by simp[Act.put,hI.size]) (fun u=>?_) (fun u k off e=>?_) ?_
    ·simp only[putL,Act.put];rw[put_getD (by rw[hI.size];exact hdN)];by_cases e1:u=t
     ·subst e1;rw[Fr.put_same,if_neg htd];exact .inr (((hI.slots u).pres (μ':=μ) hP (p':=fun j=>f (.slot u j)) (fun j b o _ h=>by simp[relab,h]) (fun _ _ _=>rfl)).dis)
     rw[Fr.put_ne _ _ e1];by_cases e2:u=d
     ·subst e2;rw[Fr.put_same,if_pos rfl];exact .inr ((hI.slots t).pres hP (fun j b o _ h=>by simp[relab,h,f]) (fun _ _ _=>rfl))
     rw[Fr.put_ne _ _ e2,if_neg e2];refine .inl ⟨rfl,rfl,fun j b o _ h=>by simp[relab,h,f,e1],?_⟩;intros;first|rfl|trivial
    ·simp only[putL]at e;by_cases e1:u=t
     ·subst e1;rw[Fr.put_same]at e;refine hI.live u k off ?_;cases hf:fr u<;>rw[hf]at e<;>simp[AV.dis]at e ⊢;exact e
     rw[Fr.put_ne _ _ e1]at e;by_cases e2:u=d
     ·subst e2;rw[Fr.put_same]at e;exact hI.live t k off e
     rw[Fr.put_ne _ _ e2]at e;exact hI.live u k off e
    exact hI.objs.pres hP (fun _ _ _=>rfl) (fun _ _ _ _ _ _=>rfl) (fun b o k _ h=>by simp[relab,h,f]) (fun b o k j _ h=>by simp[relab,h,f])
  rename_i y hy;simp at hq;subst hq;rcases evA_ok hI x with ⟨t,rfl,_,_⟩|⟨h1,h2,h3⟩
  ·exact absurd rfl (hy t)
  exact hk who μ w _ (hI.put hdN (h1 _) (fun k off e=>absurd e (h3 k off))) (Pres.refl hI.fresh) (fun _ _=>rfl) rfl
/-- A component of a tuple. -/
theorem extract_ok {c:FC} (hI:Inv who μ w N fr a.tmps ob) {x:Operand} {ix:Nat} (hN: ∀ d,o.dst=some d→d<N) (hq:extractA c o.dst fr x ix=some q) (ho:o.op= .extract x ix)
 (hk:StepK who μ w N n0 fr ob q a.defers K):o.wp P a w K Q:=by
 unfold extractA at hq;split at hq
 ·rename_i d t hd;split at hq
  ·rename_i cs hf;split at hq
   ·cases hq
   ·rename_i y hnt hy;cases hb:Nat.beq t d with
    |true=>rw[hb]at hq;cases hq
    |false=>
     rw[hb,cond_false]at hq;(have htd:t≠d:=fun e=>by subst e;simp at hb);have hdN:=hN d hd;have hs:=hI.slots t;rw[hf]at hs;obtain⟨hs1,hs2⟩:=hs;obtain⟨arr,hv,hlen,hdat⟩: ∃ arr:Array Value,a.tmps.getD t undef= .tuple arr∧arr.size=cs.length∧ ∀ (i:Nat) (x:DV) (y:Value),cs[i]? =some x→arr[i]? =some y→Dat (Ro who) w x y:=by
      generalize a.tmps.getD t undef=v at hs1;cases hs1 with
      |tu hl h=>exact⟨_,rfl,hl,h⟩
     have hix:ix<cs.length:=(List.getElem?_eq_some_iff.1 hy).1;obtain⟨u,hu⟩: ∃ u,arr[ix]? =some u:=⟨arr[ix]'(by omega),by rw[Array.getElem?_eq_getElem]⟩;have hyd:=hdat ix y u hy hu;have hyo:=hs2 arr hv ix y u hy hu;by_cases hm:mem t c.live=true
     ·rw[hm,cond_true]at hq;refine retD_ok (x:=y.dis1) (v:=u) hI hN (by rw[hd];exact hq) hyd.dis1 (fun p=>?_) (by rw[execOp,ho];simp[Act.eval,hv,Instr.extract,hu]) hk;cases y with
      |tu l=>exact absurd rfl (hnt l)
      |v z=>simp[DV.dis1,OwnA,OwnS]
      |ag z=>simp[DV.dis1,OwnA,OwnS]
      |sl z1 z2 z3=>simp[DV.dis1,OwnA,OwnS]
     replace hm:=Bool.eq_false_iff.mpr hm;rw[hm,cond_false]at hq;cases hq
     refine wp_value (v:=u) (w':=w) (by rw[execOp,ho];simp[Act.eval,hv,Instr.extract,hu]) ?_;let f:Pl→Pl:=fun p=>match p with| .slot t' j=>if t'=t∧j=ix then .slot d 0 else .slot t' j|p=>p
     have hfr: ∀ p,f p= .rest ↔ p= .rest:=by intro p;cases p<;>simp[f];split<;>simp
     have hP:=Pres.relab hI.fresh hfr;refine hk (relab who f) μ w _ ?_ hP (fun _ _=>rfl) (by rw[hd];rfl);refine hI.upd hP (hI.fresh.relab f) (by simp[Act.put,hd,hI.size]) (fun u'=>?_) (fun u' k off e=>?_) ?_
     ·simp only[putL,Act.put,hd];rw[put_getD (by rw[hI.size];exact hdN)];by_cases e1:u'=t
      ·subst e1;rw[Fr.put_same,if_neg htd,hv];refine .inr ⟨.tu (by simpa using hlen) fun i x' y' hx' hy'=>?_,fun vs hvs i x' y' hx' hy'=>?_⟩
       ·rw[List.getElem?_set]at hx';split at hx'
        ·rename_i e;subst e;simp at hx';obtain⟨_,rfl⟩:=hx';exact((hdat _ y y' hy hy').pres hP).dis1
        exact(hdat i x' y' hx' hy').pres hP
       cases hvs
       rw[List.getElem?_set]at hx';split at hx'
       ·rename_i e;subst e;simp at hx';obtain⟨_,rfl⟩:=hx';exact OwnS.dis1 _ _
       rename_i hne;exact(hs2 arr hv i x' y' hx' hy').pres hP (fun b o _ h=>by simp[relab,h,f,Ne.symm hne])
      rw[Fr.put_ne _ _ e1];by_cases e2:u'=d
      ·subst e2;rw[Fr.put_same,if_pos rfl];refine .inr ⟨hyd.pres hP,?_⟩;have h0:=hyo.pres (p':=fun b o=>relab who f b o=some (.slot u' 0)) hP (fun b o _ h=>by simp[relab,h,f]);cases y with
       |tu l=>exact absurd rfl (hnt l)
       |v z=>exact h0
       |ag z=>exact h0
       |sl z1 z2 z3=>exact h0
      rw[Fr.put_ne _ _ e2,if_neg e2];refine .inl ⟨rfl,rfl,fun j b o _ h=>by simp[relab,h,f,e1],?_⟩;intros;first|rfl|trivial
     ·simp only[putL]at e;by_cases e1:u'=t
      ·subst e1;rw[Fr.put_same]at e;cases e
      rw[Fr.put_ne _ _ e1]at e;by_cases e2:u'=d
      ·subst e2;rw[Fr.put_same]at e;cases e
      rw[Fr.put_ne _ _ e2]at e;exact hI.live u' k off e
     exact hI.objs.pres hP (fun _ _ _=>rfl) (fun _ _ _ _ _ _=>rfl) (fun b o k _ h=>by simp[relab,h,f]) (fun b o k j _ h=>by simp[relab,h,f])
   cases hq
  cases hq
 cases hq
end
end Go.Proofs.YtcfoebkbahpnaaaGreat.Ab

/- New memory: boxes, literals of slices; loads and stores of objects. -/
set_option linter.unusedVariables false
set_option linter.unusedSimpArgs false
namespace Go.Proofs.YtcfoebkbahpnaaaGreat.Ab
open Go

def fresh1 (who : Who) (n : Nat) (f : Nat → Option Pl) : Who := fun b o => if b = n then f o else who b o
theorem Pres.push {who:Who} {w w':World} (hf:Fresh who w) {f:Nat→Option Pl} (hr: ∀ o,f o≠some .rest) {x:Obj} (hh:w'.heap=w.heap.push x) (h1:w'.os=w.os) (h2:w'.tape=w.tape) (h3:w'.output=w.output):
 Pres who w (fresh1 who w.heap.size f) w' where
 size:=by rw[hh];simp
 os:=h1
 tape:=h2
 output:=h3
 blk b hb:=by rw[hh,Array.getElem?_push,if_neg (by omega)];exact BP.refl _ _
 ro b o hb e:=by simp only[fresh1];rw[if_neg (by omega)];exact e
 rest b o hb:=by simp only[fresh1];rw[if_neg (by omega)]
 new b o hb:=by
  simp only[fresh1];split
  ·exact hr o
  rw[hf b o hb];simp
theorem Fresh.push {who:Who} {w w':World} (hf:Fresh who w) {f:Nat→Option Pl} {x:Obj} (hh:w'.heap=w.heap.push x):Fresh (fresh1 who w.heap.size f) w':=fun b o hb=>by
 rw[hh,Array.size_push]at hb;simp only[fresh1];rw[if_neg (by omega)];exact hf b o (by omega)
theorem fresh1_old {who:Who} {w:World} {f:Nat→Option Pl} {b o:Nat} (h:b<w.heap.size):fresh1 who w.heap.size f b o=who b o:=by
 simp only[fresh1];rw[if_neg (by omega)]
theorem ofOb_set {ob:Ob} {k k':Nat} {c:Option (List DV)} (h:k<ob.length):(ob.set k c)[k']? =if k'=k then some c else ob[k']?:=by
 rw[List.getElem?_set];by_cases e:k=k'
 ·subst e;simp[h]
 rw[if_neg e,if_neg (Ne.symm e)]
section
variable {who:Who} {μ:Nat→Option Nat} {w:World} {N n0:Nat} {fr:Fr} {a:Act} {ob:Ob} {q:Delta} {P:Program} {o:Oper} {K:Act→World→Prop} {Q:Exit→Act→World→Prop}
theorem czK_len (own:Bool): ∀ (ks:List CK) (cs:List DV),(czK own ks cs).length=cs.length
 | [],cs=>rfl
 |_::_,[]=>rfl
 |k::ks,c::cs=>by simp[czK,czK_len own ks cs]
theorem czK_get (own:Bool): ∀ (ks:List CK) (cs:List DV) (j:Nat) (x':DV),(czK own ks cs)[j]? =some x'→ ∃ x,cs[j]? =some x∧(x'=x∨ ∃ n,x= .v (.slice none 0 0)∧x'= .sl own n [])
 | [],cs,j,x',h=>⟨x',h,.inl rfl⟩
 |_::_,[],j,x',h=>by simp[czK]at h
 |k::ks,c::cs,0,x',h=>by
  simp only[czK,List.getElem?_cons_zero,Option.some.injEq]at h;refine⟨c,rfl,?_⟩;split at h
  ·exact .inr ⟨_,rfl,h.symm⟩
  exact .inl h.symm
 |k::ks,c::cs,j+1,x',h=>by
  simp only[czK,List.getElem?_cons_succ]at h ⊢;exact czK_get own ks cs j x' h
theorem nil_dat {D:Nat→Nat→Prop} {own:Bool} {n:Nat}:Dat D w (.sl own n []) (.slice none 0 0):=
 .sl (rows:= []) (fun _=>undef) (by simp) (fun r hr=>by cases hr) (fun h=>by simp at h) (fun b o q e hq=>by simp at hq) fun i j r x hx=>by simp at hx
theorem new_ok {c:FC} {ks:List CK} (hI:Inv who μ w N fr a.tmps ob) {x:DV} {v:Value} {ty:TypeId} (hN: ∀ d,o.dst=some d→d<N) (hq:newA c n0 ks o.dst x ob=some q) (hx:Dat (Ro who) w x v) (ht: ∀ l,x≠ .tu l)
 (hr:(execOp a.eval o).run P w= .ok (.value (.pointer (some ⟨w.heap.size,0,none⟩))) (w.alloc (.cells v.cells ty))) (hk:StepK who μ w N n0 fr ob q a.defers K):o.wp P a w K Q:=by
 refine wp_value hr ?_;unfold newA at hq;split at hq
 ·cases hq
 rename_i d hd;split at hq
 ·cases hq
 rename_i i hi;split at hq;case h_2=>cases hq
 rename_i hob;simp at hq;subst hq;have hdN:=hN d hd;have hlt:n0+i<ob.length:=(List.getElem?_eq_some_iff.1 hob).1;have hP:Pres who w (fresh1 who w.heap.size fun _=>some (.blk (n0+i))) (w.alloc (.cells v.cells ty)):=Pres.push hI.fresh (fun o=>by simp) rfl rfl rfl rfl;have hF:=hI.fresh.push (f:=fun _=>some (.blk (n0+i))) (w':=w.alloc (.cells v.cells ty)) rfl;have hlive: ∀ k cs,ob[k]? =some (some cs)→k≠n0+i:=fun k cs h e=>by rw[e,hob]at h;cases h
 refine hk (fresh1 who w.heap.size fun _=>some (.blk (n0+i))) (fun k=>if k=n0+i then some w.heap.size else μ k) _ _ ?_ hP (fun k hk=>if_neg (by omega)) (by rw[hd];rfl);refine hI.upd hP hF (by simp[Act.put,hd,hI.size]) (fun t=>?_) (fun t k off e=>?_) (fun k cs hkc=>?_)
 ·simp only[putL,Act.put,hd];rw[put_getD (by rw[hI.size];exact hdN)];by_cases e:t=d
  ·subst e;rw[Fr.put_same,if_pos rfl];exact .inr ⟨w.heap.size,by simp,rfl⟩
  rw[Fr.put_ne _ _ e,if_neg e];refine .inl ⟨rfl,rfl,fun j b o hb h=>by rw[fresh1_old hb];exact h,fun k off h=>?_⟩;obtain⟨cs,hcs⟩:=hI.live t k off h;exact if_neg (hlive k cs hcs)
 ·simp only[putL]at e;simp only[setL];rw[ofOb_set hlt];by_cases e1:t=d
  ·subst e1;rw[Fr.put_same]at e;injection e with e2 e3;rw[if_pos e2.symm];exact⟨_,rfl⟩
  rw[Fr.put_ne _ _ e1]at e;obtain⟨cs,hcs⟩:=hI.live t k off e;rw[if_neg (hlive k cs hcs)];exact⟨cs,hcs⟩
 simp only[setL]at hkc;rw[ofOb_set hlt]at hkc;by_cases e:k=n0+i
 ·subst e;rw[if_pos rfl]at hkc;simp at hkc;subst hkc;have hc:=(hx.pres hP).cells ht;have hc':=hc.dis1;refine⟨w.heap.size,v.cells,ty,if_pos rfl,heap_alloc_new w _,by rw[czK_len];simpa using hc'.1,fun y hy=>hc'.2.1 y (by simpa using hy),fun o=>by simp[fresh1],fun j x' y hx' hy=>?_⟩;obtain⟨x0,hx0,he⟩:=czK_get true ks _ j x' hx';have h1:=hc'.2.2 j x0 y hx0 (by simpa using hy);rcases he with rfl|⟨n,rfl,rfl⟩
  ·refine⟨h1,?_⟩;rw[List.getElem?_map]at hx0;cases h:x.cells[j]? with
   |none=>rw[h]at hx0;simp at hx0
   |some z=>rw[h]at hx0;simp at hx0;subst hx0;exact OwnS.dis1 _ _
  have:=h1.v_inv;subst this;exact⟨nil_dat,.inl rfl⟩
 rw[if_neg e]at hkc;refine ObjR.pres hP (if_neg e) (fun b hb=>?_) (fun j b o hb h=>by rw[fresh1_old hb];exact h) (hI.objs k cs hkc);obtain⟨b',arr,ty',h1,h2,_⟩:=hI.objs k cs hkc;have hb':b=b':=by rw[hb]at h1;cases h1;rfl
 subst hb';exact⟨heap_alloc_old w _ _ (heap_lt h2),fun o h=>by rw[fresh1_old (heap_lt h2)];exact h⟩
theorem chunk_mem (n:Nat): ∀ (k:Nat) (l:List DV),l.length=k*n→ ∀ r ∈ chunk n k l,r.length=n
 |0,_,_,r,hr=>by cases hr
 |k+1,l,hl,r,hr=>by
  simp only[chunk,List.mem_cons]at hr;rw[Nat.succ_mul]at hl;rcases hr with rfl|hr
  ·simp;omega
  exact chunk_mem n k (l.drop n) (by simp;omega) r hr
theorem chunk_flat (n:Nat): ∀ (k:Nat) (l:List DV),l.length=k*n→(chunk n k l).flatten=l
 |0,l,hl=>by simp at hl;subst hl;rfl
 |k+1,l,hl=>by
  rw[Nat.succ_mul]at hl;simp only[chunk,List.flatten_cons];rw[chunk_flat n k (l.drop n) (by simp;omega)];exact List.take_append_drop n l
theorem fillA_len {place:Nat→Option (Nat × Nat)}: ∀ (l:List (Nat × DV)) (cs cs':List DV),fillA place l cs=some cs'→cs'.length=cs.length
 | [],cs,cs',h=>by simp[fillA]at h;subst h;rfl
 |(i,x)::l,cs,cs',h=>by
  simp only[fillA]at h;split at h
  ·cases h
  have h:=(bif_some h).2;split at h
  ·rename_i cs1 hs;have hl: ∀ (cs:List DV) (off:Nat) (xs cs':List DV),setAt cs off xs=some cs'→cs'.length=cs.length:=by
    intro cs;induction cs with
    |nil=>intro off xs cs' h;cases off<;>cases xs<;>simp[setAt]at h;subst h;rfl
    |cons c cs ih=>
     intro off xs cs' h;cases off with
     |zero=>cases xs with
      |nil=>simp[setAt]at h;subst h;rfl
      |cons x xs=>simp only[setAt,Option.map_eq_some_iff]at h;obtain⟨l,hl,rfl⟩:=h;simp[ih _ _ _ hl]
     |succ n=>simp only[setAt,Option.map_eq_some_iff]at h;obtain⟨l,hl,rfl⟩:=h;simp[ih _ _ _ hl]
   rw[fillA_len l cs1 cs' h,hl _ _ _ _ hs]
  cases h
/-- A slice's literal. -/
theorem buildSlice_ok {t:TypeId} {len:Nat} {l:List (Nat × DV)} {k:Array (Nat × Value)} {z:DV} (hI:Inv who μ w N fr a.tmps ob) (hN: ∀ d,o.dst=some d→d<N) (hz:buildSliceA P t len l=some z) (hk':PV (Ro who) w l k.toList)
 (hq:retD o.dst z=some q) (he:(execOp a.eval o).run P w=(do pure (.value (← Instr.buildSlice t len k)):Sem Next).run P w) (hk:StepK who μ w N n0 fr ob q a.defers K):o.wp P a w K Q:=by
 unfold buildSliceA at hz;split at hz;case h_2=>cases hz
 rename_i e hu;split at hz;case h_2=>cases hz
 rename_i n zv hs hzv;obtain⟨hb,hz⟩:=bif_some hz;simp only[Bool.and_eq_true]at hb;have hb1:=Nat.eq_of_beq_eq_true hb.1.1;have hb2:=Nat.le_of_ble_eq_true hb.1.2;have hb3:=Nat.le_of_ble_eq_true hb.2;rw[Option.map_eq_some_iff]at hz;obtain⟨cs,hfill,rfl⟩:=hz;obtain⟨v0,hv0,hd0,ht0,_⟩:=zeroT_ok (D:=Ro who) (w:=w) hzv;have hc0:=hd0.cells ht0;have hv0l:v0.cells.size=n+1:=(by have:=hc0.1;simp at this;omega);have hbig:¬(len*(n+1)>2 ^ 24):=(by have:=Nat.mul_le_mul hb2 (show n+1≤64 by omega);omega);have hz0:CV (Ro who) w (repl len zv.cells) ((Array.range (len*(n+1))).map (v0.cells[·% v0.cells.size]!)).toList:=by
  have h1:=repl_ok hc0 len;have h2:((Array.range (len*(n+1))).map (v0.cells[·% v0.cells.size]!)).toList=replV len v0.cells.toList:=by
   apply List.ext_getElem?;intro i;have hrl:(replV len v0.cells.toList).length=len*(n+1):=(by rw[h1.1,repl_len,hb1]);by_cases hi:i<len*(n+1)
   ·rw[replV_get _ (by simp;omega) len i (by simp;rw[hv0l];exact hi)];have hm:i % v0.cells.size<v0.cells.size:=Nat.mod_lt _ (by omega);simp[hi,Array.getElem!_eq_getD,hm]
   rw[List.getElem?_eq_none (by simp;omega),List.getElem?_eq_none (by omega)]
  rw[h2];exact h1
 obtain⟨arr,hf1,hf2,hf3⟩:=fill_ok l k.toList _ cs _ hfill hk' hz0;have hcl:cs.length=len*(n+1):=(by rw[fillA_len _ _ _ hfill,repl_len,hb1]);have harr:arr.size=len*(n+1):=(by have:=hf2.1;simp at this;omega);have hr:(execOp a.eval o).run P w= .ok (.value (.slice (some ⟨w.heap.size,0,none⟩) len len)) (w.alloc (.cells arr e)):=by
  rw[he];by_cases h0:len*(n+1)=0
  ·have hr0:(Array.range (len*(n+1))).map (v0.cells[·% v0.cells.size]!)=(Array.range (len*(n+1))).map ((#[]:Array Value)[·% (#[]:Array Value).size]!):=(by rw[h0];simp);rw[hr0]at hf1;simp only[Instr.buildSlice,Sem.run_bind,underlying_run hu,sizeOf_run hs,Result.andThen_ok,if_neg hbig,if_pos h0,Sem.run_pure,hf1];rfl
  simp only[Instr.buildSlice,Sem.run_bind,underlying_run hu,sizeOf_run hs,Result.andThen_ok,if_neg hbig,if_neg h0,hv0,Sem.run_pure,hf1];rfl
 refine wp_value hr ?_;(let dd:=o.dst.getD 0);(let f:Nat→Option Pl:=fun o'=>if o'<len*(n+1)then none else some (.slot dd 0));have hP:Pres who w (fresh1 who w.heap.size f) (w.alloc (.cells arr e)):=Pres.push hI.fresh (fun o=>by simp only[f];split<;>simp) rfl rfl rfl rfl;have hF:=hI.fresh.push (f:=f) (w':=w.alloc (.cells arr e)) rfl;have hob:ORep (fresh1 who w.heap.size f) μ (w.alloc (.cells arr e)) ob:=hI.objs.pres hP (fun _ _ _=>rfl) (fun k cs b _ _ hb=>heap_alloc_old w _ _ hb)
  (fun b o k hb h=>by rw[fresh1_old hb];exact h) (fun b o k j hb h=>by rw[fresh1_old hb];exact h)
 unfold retD ret1 at hq;cases hd:o.dst with
 |none=>
  rw[hd]at hq;simp at hq;subst hq;exact hk _ μ _ _ (hI.upd hP hF hI.size (fun t=> .inl ⟨rfl,rfl,fun j b o hb h=>by rw[fresh1_old hb];exact h,fun _ _ _=>rfl⟩) (fun t k off e=>hI.live t k off e) hob) hP (fun _ _=>rfl) rfl
 |some d=>
  rw[hd]at hq;simp at hq;subst hq;have hdd:dd=d:=(by simp[dd,hd]);refine hk _ μ _ _ (hI.upd hP hF (by simp[Act.put,hI.size]) (fun t=>?_) (fun t k off e=>?_) hob) hP (fun _ _=>rfl) rfl
  ·simp only[putL,Act.put];rw[put_getD (by rw[hI.size];exact hN d hd)];by_cases e1:t=d
   ·subst e1;rw[Fr.put_same,if_pos rfl];have hlen:=chunk_len (n+1) len cs;have hd1:Dat (Ro (fresh1 who w.heap.size f)) (w.alloc (.cells arr e)) (.sl true (n+1) (chunk (n+1) len cs)) (.slice (some ⟨w.heap.size,0,none⟩) (chunk (n+1) len cs).length len):=by
     refine sl_mk (vs:=arr.toList) (by rw[hlen];exact Nat.le_refl _) (chunk_mem _ _ _ hcl) (fun _=>by omega) ?_ (fun q' hq'=>?_)
     ·rw[chunk_flat _ _ _ hcl];exact⟨hf2.1,hf2.2.1,fun i x y hx hy=>(hf2.2.2 i x y hx hy).pres hP⟩
     rw[hlen]at hq';refine⟨by simp[Ro,fresh1,f,hq'],fun v hv=>?_⟩;rw[Nat.zero_add];rw[World.cell?_alloc_new];simpa using hv
    rw[hlen]at hd1;refine .inr ⟨hd1,.inr ⟨w.heap.size,len,arr,e,by rw[hlen],heap_alloc_new w _,by rw[hlen];exact Nat.le_refl _,by simp[maxLen];omega,harr,by omega,fun o' ho'=>?_⟩⟩;rw[hlen]at ho';(show(if w.heap.size=w.heap.size then f o' else who _ o')=_);rw[if_pos rfl];show(if o'<_ then _ else _)=_;rw[if_neg (by omega),hdd]
   rw[Fr.put_ne _ _ e1,if_neg e1];exact .inl ⟨rfl,rfl,fun j b o hb h=>by rw[fresh1_old hb];exact h,fun _ _ _=>by first|rfl|trivial⟩
  simp only[putL]at e;by_cases e1:t=d
  ·subst e1;rw[Fr.put_same]at e;cases e
  rw[Fr.put_ne _ _ e1]at e;exact hI.live t k off e
end
end Go.Proofs.YtcfoebkbahpnaaaGreat.Ab
