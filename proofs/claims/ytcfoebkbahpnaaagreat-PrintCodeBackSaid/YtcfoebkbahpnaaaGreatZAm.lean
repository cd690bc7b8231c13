/- A region, in whatever order its operations come. -/
import Derived.Test.YtcfoebkbahpnaaaGreatZAp
set_option linter.unusedVariables false
set_option linter.unusedSimpArgs false
namespace Go.Proofs.YtcfoebkbahpnaaaGreat.Ab
open Go

def RunR0 (G : Cfg) (c : FC) (n0 : Nat) (ops : List Oper) (o : Oper) (fr : Fr) (ob : Ob) (q : Delta) : Prop :=
  (∃ f as tys c1 r, o.op = .call { callee := .value (.func f), args := as, argTypes := tys } ∧ callIn G f as.toList tys.toList fr ob = some c1 ∧ Enters G.P f ∧ FunOK G.P f c1.args c1.objs r ∧ callOut o.dst c1 r = some q) ∨
  runA G c n0 ops o fr ob = some q
def RunR (G : Cfg) (c : FC) (n0 : Nat) (ops : List Oper) (o : Oper) (fr : Fr) (ob : Ob) (q : Delta) : Prop := ∃ q0, RunR0 G c n0 ops o fr ob q0 ∧ DLe q0 q
def StepR (G : Cfg) (c : FC) (n0 : Nat) (ops : List Oper) (o : Oper) (fr : Fr) (ob : Ob) (q : Delta) : Prop :=
  (wantA ops o fr = some true ∧ RunR G c n0 ops o fr ob q) ∨ (wantA ops o fr = some false ∧ q = undefA o.dst)

section
variable {G : Cfg} {env : Env} {c : FC} {n0 : Nat} {ops : List Oper} {o : Oper} {fr : Fr} {ob : Ob} {q : Delta}

theorem runC_ok (hE:EnvOK G.P env) {K:Delta→Option R} {r:R} (h:runC G env c n0 ops o fr ob K=some r): ∃ q,RunR G c n0 ops o fr ob q∧ ∀ K',runC G env c n0 ops o fr ob K'=K' q:=by
 unfold runC at h;split at h
 ·rename_i f as tys he0;split at h
  ·rename_i c1 hc;obtain⟨q,hq,h1,h2⟩:=hE _ _ _ _ _ h;rw[hq]at h;obtain⟨e,he⟩:=opt_step h;refine⟨_,⟨e,.inl ⟨f,as,tys,c1,q,he0,hc,h1,h2,he⟩,czL_le G.P o.type o.dst e⟩,fun K'=>?_⟩;unfold runC;rw[he0];simp only[hc,hq,he]
  cases h
 rename_i hno;obtain⟨q0,q,h1,h2,h3⟩:=runB_ok h;refine⟨q,⟨q0,.inr h1,h2⟩,fun K'=>?_⟩;unfold runC;split
 ·rename_i he;exact absurd he (hno _ _ _)
 exact h3 K'
theorem put_self {fr:Fr} {d:Nat} {x:AV} (h:fr d=x):fr.put d x=fr:=by
 funext u;by_cases e:u=d
 ·subst e;rw[Fr.put_same,h]
 rw[Fr.put_ne _ _ e]
theorem stepC_ok (hE:EnvOK G.P env) {K:Delta→Fr→Option R} {r:R} (h:stepC G env c n0 ops o fr ob K=some r): ∃ q,StepR G c n0 ops o fr ob q∧K q fr=some r∧ ∀ K',stepC G env c n0 ops o fr ob K'=K' q fr:=by
 unfold stepC at h;split at h
 ·rename_i hg;obtain⟨q,h1,h2⟩:=runC_ok hE h;rw[h2]at h;exact⟨q,.inl ⟨by simp[wantA,hg],h1⟩,h,fun K'=>by unfold stepC;rw[hg];simp only[h2]⟩
 rename_i j want hg;split at h;case h_2=>cases h
 rename_i d hd;split at h
 ·rename_i b hb;have hw:wantA ops o fr=some (b==want):=(by simp[wantA,hg,hd,hb]);have hs: ∀ K':Delta→Fr→Option R,stepC G env c n0 ops o fr ob K'=(bif b then(bif want then runC G env c n0 ops o fr ob fun q=>K' q fr else K' (undefA o.dst) fr)else(bif want then K' (undefA o.dst) fr else runC G env c n0 ops o fr ob fun q=>K' q fr)):=fun K'=>by
   unfold stepC;rw[hg];simp only[hd,hb];cases b<;>simp only[cond_true,cond_false,put_self hb]
  cases b<;>cases want<;>simp only[cond_true,cond_false]at h hs
  ·rw[put_self hb]at h;obtain⟨q,h1,h2⟩:=runC_ok hE h;rw[h2]at h;exact⟨q,.inl ⟨hw,h1⟩,h,fun K'=>by rw[hs,h2]⟩
  ·rw[put_self hb]at h;exact⟨_,.inr ⟨hw,rfl⟩,h,hs⟩
  ·rw[put_self hb]at h;exact⟨_,.inr ⟨hw,rfl⟩,h,hs⟩
  rw[put_self hb]at h;obtain⟨q,h1,h2⟩:=runC_ok hE h;rw[h2]at h;exact⟨q,.inl ⟨hw,h1⟩,h,fun K'=>by rw[hs,h2]⟩
 ·rename_i hb;exact⟨_,.inr ⟨by simp[wantA,hg,hd,hb],rfl⟩,h,fun K'=>by unfold stepC;rw[hg];simp only[hd,hb]⟩
 cases h
/-! What an operation leaves alone, and what it hangs on. -/
theorem evA_congr {fr fr':Fr} {x:Operand} (h: ∀ t,t ∈ tmpsOf [x]→fr' t=fr t):evA fr' x=evA fr x:=by
 cases x with
 |tmp t=>exact h t (by simp[tmpsOf])
 |_=>rfl
theorem tmpsOf_mem {as:List Operand} {x:Operand} (hx:x ∈ as): ∀ t,t ∈ tmpsOf [x]→t ∈ tmpsOf as:=by
 induction as with
 |nil=>cases hx
 |cons y r ih=>
  intro t ht;rcases List.mem_cons.1 hx with rfl|hx
  ·cases x<;>simp[tmpsOf]at ht ⊢;exact .inl ht
  have:=ih hx t ht;cases y<;>simp[tmpsOf,this]
theorem evs_congr {fr fr':Fr} {as:List Operand} (h: ∀ t,t ∈ tmpsOf as→fr' t=fr t): ∀ x ∈ as,evA fr' x=evA fr x:=fun x hx=>evA_congr fun t ht=>h t (tmpsOf_mem hx t ht)
theorem dvs_congr {fr fr':Fr}: ∀ (ps:List (Nat × Operand)),(∀ p ∈ ps,evA fr' p.2=evA fr p.2)→dvs fr' ps=dvs fr ps
 | [],_=>rfl
 |(i,x)::r,h=>by simp only[dvs];rw[h (i,x) (by simp),dvs_congr r (fun p hp=>h p (by simp[hp]))]
theorem argTakes_congr {fr fr':Fr} (l:List Nat): ∀ (as:List Operand) (i:Nat),(∀ x ∈ as,evA fr' x=evA fr x)→argTakes l as i fr'=argTakes l as i fr
 | [],_,_=>rfl
 |x::r,i,h=>by
  have ih:=argTakes_congr l r (i+1) (fun y hy=>h y (by simp[hy]));cases x with
  |tmp t=>simp only[argTakes];rw[ih,show fr' t=fr t from h (.tmp t) (by simp)]
  |_=>simpa [argTakes]using ih
theorem optD_congr {fr fr':Fr} {x:Option Operand} (h: ∀ y,x=some y→evA fr' y=evA fr y):optD fr' x=optD fr x:=by
 cases x with
 |none=>rfl
 |some y=>simp only[optD];rw[h y rfl]
theorem gets_congr {ob ob':Ob}: ∀ ks:List Nat,(∀ k ∈ ks,ob'[k]? =ob[k]?)→gets ob' ks=gets ob ks
 | [],_=>rfl
 |k::r,h=>by simp only[gets];rw[h k (by simp),gets_congr r (fun k' hk=>h k' (by simp[hk]))]
theorem operand_evs {fr fr':Fr} (h: ∀ t ∈ rdS ops o,fr' t=fr t): ∀ x ∈ o.op.operands.toList,evA fr' x=evA fr x:=
 evs_congr fun t ht=>h t (List.mem_append_left _ ht)
theorem runA_local {fr':Fr} {ob':Ob} (hf: ∀ t ∈ rdS ops o,fr' t=fr t) (h:runA G c n0 ops o fr ob=some q) (ho: ∀ k ∈ q.rd,ob'[k]? =ob[k]?):runA G c n0 ops o fr' ob'=some q:=by
 have hx:=operand_evs hf;(have one: ∀ x,x ∈ o.op.operands→evA fr' x=evA fr x:=fun x hx'=>hx x (by simpa using hx'));have h0:=h;unfold runA at h;unfold runA;split at h
 ·rename_i x he;have e:=one x (by rw[he];simp[Op.operands]);(show copyA G c ops o.dst fr' x=some q);unfold copyA at h ⊢;cases x with
  |tmp t=>have e':fr' t=fr t:=e;simp only[e']at h ⊢;exact h
  |_=>exact h
 ·rename_i x he;have e:=one x (by rw[he];simp[Op.operands]);(show copyA G c ops o.dst fr' x=some q);unfold copyA at h ⊢;cases x with
  |tmp t=>have e':fr' t=fr t:=e;simp only[e']at h ⊢;exact h
  |_=>exact h
 ·rename_i cnd x y he;simp only[one cnd (by rw[he];simp[Op.operands]),one x (by rw[he];simp[Op.operands]),one y (by rw[he];simp[Op.operands])];exact h
 ·rename_i t he;rw[Option.bind_eq_some_iff]at h;obtain⟨z,hz,h⟩:=h;(show(zeroT G.P t).bind _=_);rw[hz];(show newA c n0 (kindsT G.P 8 t) o.dst z ob'=some q);unfold newA at h ⊢;split at h
  ·cases h
  rename_i d hd;split at h
  ·cases h
  rename_i i hi;split at h
  ·rename_i hob;simp at h;subst h;(try simp only[hi]);rw[ho _ (by simp),hob]
  cases h
 ·rename_i t x he;(show(match evA fr' x with| .d (.tu _)=>none| .d y=>newA c n0 (kindsT G.P 8 t) o.dst y ob'|_=>none)=some q);rw[one x (by rw[he];simp[Op.operands])];split at h
  ·cases h
  ·rename_i y hnt hy;rw[hy];have:newA c n0 (kindsT G.P 8 t) o.dst y ob'=some q:=by
    unfold newA at h ⊢;split at h
    ·cases h
    rename_i d hd;split at h
    ·cases h
    rename_i i hi;split at h
    ·rename_i hob;simp at h;subst h;(try simp only[hi]);rw[ho _ (by simp),hob]
    cases h
   cases y<;>first|exact this|exact absurd rfl (hnt _)
  cases h
 ·rename_i t ps he;(show(dvs fr' ps.toList).bind _=_);rw[dvs_congr _ (fun p hp=>one p.2 (by rw[he];simp[Op.operands];exact⟨p.1,by simpa using hp⟩))];exact h
 ·rename_i t len ps he;(show(dvs fr' ps.toList).bind _=_);rw[dvs_congr _ (fun p hp=>one p.2 (by rw[he];simp[Op.operands];exact⟨p.1,by simpa using hp⟩))];exact h
 ·rename_i t x he;(show loadA G c.ro ops o.dst t (evA fr' x) ob'=some q);rw[one x (by rw[he];simp[Op.operands])];unfold loadA at h ⊢;split at h
  ·exact h
  ·rename_i k off hx';have hk:ob'[k]? =ob[k]?:=ho k (by
    split at h
    ·rename_i cs hcs;cases hw:wantsO G c.ro o.dst ops with
     |true=>
      rw[hw]at h;simp only[cond_true]at h;split at h
      ·simp at h;subst h;simp
      cases h
     |false=>
      rw[hw]at h;simp only[cond_false,Option.map_eq_some_iff]at h;obtain⟨q',_,rfl⟩:=h;simp
    cases h)
   rw[hk];exact h
  cases h
 ·rename_i t pa x he;(show(match o.dst with|none=>storeA G c t (evA fr' pa) x fr' ob'|some _=>none)=some q);split at h
  ·rename_i hd;rw[hd];(show storeA G c t (evA fr' pa) x fr' ob'=some q);unfold storeA at h ⊢;rw[one pa (by rw[he];simp[Op.operands]),one x (by rw[he];simp[Op.operands])];split at h
   ·rename_i k off y hp hy;have hk:ob'[k]? =ob[k]?:=ho k (by
     split at h
     ·obtain⟨_,h⟩:=bif_some h;split at h
      ·cases h
      ·rename_i s _ _;cases hm:mem s c.live with
       |true=>rw[hm]at h;simp only[cond_true,Option.map_eq_some_iff]at h;obtain⟨_,_,rfl⟩:=h;simp
       |false=>rw[hm]at h;simp only[cond_false,Option.map_eq_some_iff]at h;obtain⟨_,_,rfl⟩:=h;simp
      simp only[Option.map_eq_some_iff]at h;obtain⟨_,_,rfl⟩:=h;simp
     cases h)
    rw[hk];exact h
   cases h
  cases h
 ·rename_i x he;simp only[one x (by rw[he];simp[Op.operands])];exact h
 ·rename_i op t x y yt he;simp only[one x (by rw[he];simp[Op.operands]),one y (by rw[he];simp[Op.operands])];exact h
 ·rename_i t x he;simp only[one x (by rw[he];simp[Op.operands])];exact h
 ·rename_i t x he;simp only[one x (by rw[he];simp[Op.operands])];exact h
 ·rename_i s d x he;simp only[one x (by rw[he];simp[Op.operands])];exact h
 ·rename_i t x lo hi he;simp only[one x (by rw[he];simp[Op.operands])];rw[optD_congr (x:=lo) (fun y hy=>one y (by rw[he];subst hy;simp[Op.operands])),optD_congr (x:=hi) (fun y hy=>one y (by rw[he];subst hy;simp[Op.operands]))];exact h
 ·rename_i t x f he;simp only[one x (by rw[he];simp[Op.operands])];exact h
 ·rename_i t x f he;simp only[one x (by rw[he];simp[Op.operands])];exact h
 ·rename_i t x i he;simp only[one x (by rw[he];simp[Op.operands]),one i (by rw[he];simp[Op.operands])];exact h
 ·rename_i t x i he;simp only[one x (by rw[he];simp[Op.operands]),one i (by rw[he];simp[Op.operands])];exact h
 ·rename_i x ix he;(show extractA c o.dst fr' x ix=some q);have e:=one x (by rw[he];simp[Op.operands]);unfold extractA at h ⊢;cases hd:o.dst with
  |none=>rw[hd]at h;cases h
  |some d=>
   rw[hd]at h;cases x with
   |tmp t=>
    have e':fr' t=fr t:=e;(show(match fr' t with| .d (.tu cs)=>(match cs[ix]? with|some (.tu _)=>none|some y=>bif Nat.beq t d then none else bif mem t c.live then some ⟨[(d,.d y.dis1)],[],[]⟩else some ⟨[(d,.d y),(t,.d (.tu (cs.set ix y.dis1)))],[],[]⟩|none=>none)|_=>none)=some q);rw[e'];exact h
   |const v=>cases h
   |global v=>cases h
   |func v=>cases h
 ·rename_i as ts he;split at h
  ·rename_i x t has hts;have hxm:x ∈ as:=(by rw[← Array.mem_toList_iff,has];simp);simp only[one x (by rw[he];simp[Op.operands,Call.operands];exact hxm)];exact h
  cases h
 ·rename_i as ts he;split at h
  ·rename_i s y t t' has hts;have hsm:Operand.tmp s ∈ as:=(by rw[← Array.mem_toList_iff,has];simp);have hym:y ∈ as:=(by rw[← Array.mem_toList_iff,has];simp);have e1:fr' s=fr s:=one (.tmp s) (by rw[he];simp[Op.operands,Call.operands];exact hsm);simp only[one y (by rw[he];simp[Op.operands,Call.operands];exact hym),e1];exact h
  cases h
 cases h
/-- An operation hangs on the slots that it looks at and on the objects that it reads. -/
theorem runR0_local {fr':Fr} {ob':Ob} (hf: ∀ t ∈ rdS ops o,fr' t=fr t) (h:RunR0 G c n0 ops o fr ob q) (ho: ∀ k ∈ q.rd,ob'[k]? =ob[k]?):RunR0 G c n0 ops o fr' ob' q:=by
 rcases h with ⟨f,as,tys,c1,r,he,h1,h2,h3,h4⟩|h
 ·refine .inl ⟨f,as,tys,c1,r,he,?_,h2,h3,h4⟩;have hx:=operand_evs hf;(have hxs: ∀ x ∈ as.toList,evA fr' x=evA fr x:=fun x hx'=>hx x (by rw[he];simp[Op.operands,Call.operands];exact .inr (by simpa using hx')));unfold callOut at h4;have h4':=(bif_some h4).2;simp at h4';subst h4';unfold callIn at h1 ⊢;rw[List.map_congr_left hxs,argTakes_congr _ _ _ hxs];obtain⟨g1,g2⟩:=bif_some h1;rw[Option.map_eq_some_iff]at g2;obtain⟨cs,g2,rfl⟩:=g2;simp only at ho;simp only at h1 ⊢;rw[gets_congr _ ho];exact h1
 exact .inr (runA_local hf h ho)
theorem runR_local {fr':Fr} {ob':Ob} (hf: ∀ t ∈ rdS ops o,fr' t=fr t) (h:RunR G c n0 ops o fr ob q) (ho: ∀ k ∈ q.rd,ob'[k]? =ob[k]?):RunR G c n0 ops o fr' ob' q:=by
 obtain⟨q0,h1,h2⟩:=h;exact⟨q0,runR0_local hf h1 (by rw[← h2.2.1];exact ho),h2⟩
/-- What it turns: its own slots; objects among those that it reads. -/
theorem runA_foot (h:runA G c n0 ops o fr ob=some q):(∀ p ∈ q.sl,p.1 ∈ wrS G c ops o)∧ ∀ p ∈ q.ob,p.1 ∈ q.rd:=by
 have r1: ∀ {x:AV} {q:Delta},ret1 o.dst x=some q→(∀ p ∈ q.sl,p.1 ∈ wrS G c ops o)∧ ∀ p ∈ q.ob,p.1 ∈ q.rd:=fun h=>by
  obtain⟨h1,h2,h3⟩:=retD_rd h;exact⟨fun p hp=>by rw[wrS,h3 p hp];simp,fun p hp=>by rw[h2]at hp;cases hp⟩
 (have r2: ∀ {x:DV} {q:Delta},retD o.dst x=some q→(∀ p ∈ q.sl,p.1 ∈ wrS G c ops o)∧ ∀ p ∈ q.ob,p.1 ∈ q.rd:=fun h=>r1 h);have rn: ∀ {ks:List CK} {x:DV} {q:Delta},newA c n0 ks o.dst x ob=some q→(∀ p ∈ q.sl,p.1 ∈ wrS G c ops o)∧ ∀ p ∈ q.ob,p.1 ∈ q.rd:=fun h=>by
  unfold newA at h;split at h
  ·cases h
  rename_i d hd;split at h
  ·cases h
  split at h
  ·simp at h;subst h;exact⟨fun p hp=>by simp at hp;subst hp;rw[wrS,hd];simp,fun p hp=>by simp at hp;subst hp;simp⟩
  cases h
 have cp: ∀ x,(o.op= .move x∨o.op= .assign x)→copyA G c ops o.dst fr x=some q→(∀ p ∈ q.sl,p.1 ∈ wrS G c ops o)∧ ∀ p ∈ q.ob,p.1 ∈ q.rd:=fun x he h=>by
  unfold copyA at h;split at h
  ·cases h
  rename_i d hd;split at h
  ·rename_i t;cases hb:takes G c ops (some d) t && !Nat.beq t d with
   |false=>
    rw[hd]at h;rw[hb]at h;simp at h;subst h;exact⟨fun p hp=>by simp at hp;subst hp;rw[wrS,hd];simp,fun p hp=>by simp at hp⟩
   |true=>
    rw[hd]at h;rw[hb]at h;simp at h;subst h;rw[Bool.and_eq_true]at hb;refine⟨fun p hp=>?_,fun p hp=>by simp at hp⟩;simp at hp;rcases hp with rfl|rfl
    ·rw[wrS,hd];simp
    rcases he with he|he<;>rw[wrS,he,hd]<;>simp[hb.1]
  simp at h;subst h;exact⟨fun p hp=>by simp at hp;subst hp;rw[wrS,hd];simp,fun p hp=>by simp at hp⟩
 unfold runA at h;split at h
 ·rename_i x he;exact cp x (.inl he) h
 ·rename_i x he;exact cp x (.inr he) h
 ·split at h
  ·exact r1 h
  cases h
 ·rw[Option.bind_eq_some_iff]at h;obtain⟨_,_,h⟩:=h;exact rn h
 ·split at h
  ·cases h
  ·exact rn h
  cases h
 ·rw[Option.bind_eq_some_iff]at h;obtain⟨_,_,h⟩:=h;rw[Option.bind_eq_some_iff]at h;obtain⟨_,_,h⟩:=h;exact r2 h
 ·rw[Option.bind_eq_some_iff]at h;obtain⟨_,_,h⟩:=h;rw[Option.bind_eq_some_iff]at h;obtain⟨_,_,h⟩:=h;exact r2 h
 ·rename_i t x he;unfold loadA at h;split at h
  ·rw[Option.bind_eq_some_iff]at h;obtain⟨_,_,h⟩:=h;exact r2 h
  ·split at h
   ·cases hw:wantsO G c.ro o.dst ops with
    |true=>
     rw[hw]at h;simp only[cond_true]at h;split at h
     ·rename_i d _ _ _ hd;simp at h;subst h;exact⟨fun p hp=>by simp at hp;subst hp;rw[wrS,hd];simp,fun p hp=>by simp at hp;subst hp;simp⟩
     cases h
    |false=>
     rw[hw]at h;simp only[cond_false,Option.map_eq_some_iff,Option.bind_eq_some_iff]at h;obtain⟨q',⟨_,_,h⟩,rfl⟩:=h;have:=r2 h;exact⟨this.1,fun p hp=>by have h2:=(retD_rd h).2.1;simp only at hp;rw[h2]at hp;cases hp⟩
   cases h
  cases h
 ·rename_i t pa x he;split at h
  ·rename_i hd;unfold storeA at h;split at h
   ·split at h
    ·obtain⟨_,h⟩:=bif_some h;split at h
     ·cases h
     ·rename_i s hh1 hh2 hh3;cases hm:mem s c.live with
      |true=>rw[hm]at h;simp only[cond_true,Option.map_eq_some_iff]at h;obtain⟨_,_,rfl⟩:=h;exact⟨fun p hp=>by simp at hp,fun p hp=>by simp at hp;subst hp;simp⟩
      |false=>
       rw[hm]at h;simp only[cond_false,Option.map_eq_some_iff]at h;obtain⟨_,_,rfl⟩:=h;exact⟨fun p hp=>by simp at hp;subst hp;rw[wrS,he];simp[hm],fun p hp=>by simp at hp;subst hp;simp⟩
     simp only[Option.map_eq_some_iff]at h;obtain⟨_,_,rfl⟩:=h;exact⟨fun p hp=>by simp at hp,fun p hp=>by simp at hp;subst hp;simp⟩
    cases h
   cases h
  cases h
 ·split at h
  ·exact r1 h
  ·exact r1 h
  cases h
 ·split at h
  ·rw[Option.bind_eq_some_iff]at h;obtain⟨_,_,h⟩:=h;exact r2 h
  cases h
 ·split at h
  ·exact r2 h
  cases h
 ·split at h
  ·exact r2 h
  cases h
 ·split at h
  ·exact r2 h
  ·split at h
   ·rw[Option.bind_eq_some_iff]at h;obtain⟨_,_,h⟩:=h;exact r2 h
   cases h
  cases h
 ·split at h
  ·rw[Option.bind_eq_some_iff]at h;obtain⟨_,_,h⟩:=h;exact r2 h
  cases h
 ·rw[Option.bind_eq_some_iff]at h;obtain⟨_,_,h⟩:=h;exact r1 h
 ·split at h
  ·rw[Option.bind_eq_some_iff]at h;obtain⟨_,_,h⟩:=h;exact r2 h
  cases h
 ·split at h
  ·rw[Option.bind_eq_some_iff]at h;obtain⟨_,_,h⟩:=h;exact r1 h
  cases h
 ·split at h
  ·rw[Option.bind_eq_some_iff]at h;obtain⟨_,_,h⟩:=h;exact r2 h
  cases h
 ·rename_i x ix he;unfold extractA at h;split at h
  ·rename_i d t hd;split at h
   ·split at h
    ·cases h
    ·cases hb:Nat.beq t d with
     |true=>rw[hb]at h;cases h
     |false=>
      rw[hb,cond_false]at h;cases hm:mem t c.live with
      |true=>
       rw[hm,cond_true]at h;cases h
       exact⟨fun p hp=>by simp at hp;subst hp;rw[wrS,hd];simp,fun p hp=>by simp at hp⟩
      |false=>
      rw[hm,cond_false]at h;cases h
      refine⟨fun p hp=>?_,fun p hp=>by simp at hp⟩;simp at hp;rcases hp with rfl|rfl
      ·rw[wrS,hd];simp
      rw[wrS,he];simp[hm]
    cases h
   cases h
  cases h
 ·split at h
  ·split at h
   ·rw[Option.bind_eq_some_iff]at h;obtain⟨_,_,h⟩:=h;exact r2 h
   cases h
  cases h
 ·rename_i as ts he;split at h
  ·rename_i s y t t' has hts;split at h
   ·split at h
    ·rename_i d hd;cases hb:Nat.beq s d with
     |true=>rw[hb]at h;cases h
     |false=>
      rw[hb]at h;simp only[cond_false,Option.map_eq_some_iff]at h;obtain⟨r,_,rfl⟩:=h;refine⟨fun p hp=>?_,fun p hp=>by simp at hp⟩;simp at hp;rcases hp with rfl|rfl
      ·rw[wrS,he];simp only[has];simp
      rw[wrS,hd];simp
    cases h
   cases h
  cases h
 cases h
theorem ownT_mem (l:List Nat): ∀ (as:List Operand) (i t:Nat),(∃ j,as[j]? =some (Operand.tmp t)∧mem (i+j) l=true)→t ∈ ownT l as i
 | [],i,t,⟨j,h,_⟩=>by simp at h
 |y::r,i,t,⟨j,h,hm⟩=>by
  cases j with
  |zero=>simp at h;subst h;simp only[ownT];rw[show mem i l=true from hm];simp
  |succ j=>
   have ih:=ownT_mem l r (i+1) t ⟨j,by simpa using h,by rw[show i+1+j=i+(j+1)from by omega];exact hm⟩;cases y with
   |tmp u=>simp only[ownT];cases mem i l<;>simp[ih]
   |const v=>exact ih
   |global v=>exact ih
   |func v=>exact ih
theorem DLe.foot {q0 q:Delta} (h:DLe q0 q) (hf:(∀ p ∈ q0.sl,p.1 ∈ wrS G c ops o)∧ ∀ p ∈ q0.ob,p.1 ∈ q0.rd):(∀ p ∈ q.sl,p.1 ∈ wrS G c ops o)∧ ∀ p ∈ q.ob,p.1 ∈ q.rd:=by
 refine⟨fun p hp=>?_,fun p hp=>by rw[h.1]at hp;rw[h.2.1];exact hf.2 p hp⟩;obtain⟨i,hi⟩:=List.getElem?_of_mem hp;have hlt:i<q0.sl.length:=(by rw[← h.2.2.1];exact(List.getElem?_eq_some_iff.1 hi).1);have hp0:q0.sl[i]? =some q0.sl[i]:=List.getElem?_eq_getElem hlt;rw[(h.2.2.2 i _ p hp0 hi).1];exact hf.1 _ (by simp)
theorem stepR_foot (h:StepR G c n0 ops o fr ob q):(∀ p ∈ q.sl,p.1 ∈ wrS G c ops o)∧ ∀ p ∈ q.ob,p.1 ∈ q.rd:=by
 rcases h with ⟨_,q0,h,hle⟩|⟨_,rfl⟩
 ·refine hle.foot ?_;rcases h with ⟨f,as,tys,c1,r,he,h1,_,_,h4⟩|h
  ·unfold callOut at h4;have h4':=(bif_some h4).2;simp at h4';subst h4';unfold callIn at h1;have h1:=(bif_some h1).2;rw[Option.map_eq_some_iff]at h1;obtain⟨cs,_,rfl⟩:=h1;refine⟨fun p hp=>?_,fun p hp=>(List.of_mem_zip hp).1⟩;simp only[List.mem_append]at hp;rw[wrS,List.mem_append];rcases hp with hp|hp
   ·right;rw[he];obtain⟨_,j,hj,hm⟩:=argTakes_mem _ _ _ _ p.1 p.2 hp;exact ownT_mem _ _ _ _ ⟨j,hj,hm⟩
   left;cases hd:o.dst with
   |none=>rw[hd]at hp;cases hp
   |some d=>rw[hd]at hp;simp at hp;subst hp;simp
  exact runA_foot h
 refine⟨fun p hp=>?_,fun p hp=>by cases hp⟩;simp only[undefA]at hp;cases hd:o.dst with
 |none=>rw[hd]at hp;cases hp
 |some d=>rw[hd]at hp;simp at hp;subst hp;rw[wrS,hd];simp
theorem want_local {fr':Fr} (hf: ∀ t ∈ rdS ops o,fr' t=fr t):wantA ops o fr'=wantA ops o fr:=by
 unfold wantA;cases hg:o.guard with
 |none=>rfl
 |some gw=>
  obtain⟨j,want⟩:=gw;simp only;cases hd:(ops[j]?).bind (·.dst)with
  |none=>rfl
  |some d=>
   have:fr' d=fr d:=hf d (by simp[rdS,hg,hd]);simp only[this]
theorem stepR_local {fr':Fr} {ob':Ob} (hf: ∀ t ∈ rdS ops o,fr' t=fr t) (h:StepR G c n0 ops o fr ob q) (ho: ∀ k ∈ q.rd,ob'[k]? =ob[k]?):StepR G c n0 ops o fr' ob' q:=by
 rcases h with ⟨h1,h2⟩|⟨h1,h2⟩
 ·exact .inl ⟨(want_local hf).trans h1,runR_local hf h2 ho⟩
 exact .inr ⟨(want_local hf).trans h1,h2⟩
theorem meets_false: ∀ (l k:List Nat),meets l k=false→ ∀ t ∈ l,t ∉ k
 | [],k,_,t,ht=>by cases ht
 |x::r,k,h,t,ht=>by
  simp only[meets,Bool.or_eq_false_iff]at h;rcases List.mem_cons.1 ht with rfl|ht
  ·intro hk;rw[(mem_iff t k).2 hk]at h;simp at h
  exact meets_false r k h.2 t ht
/-- Objects: neither turns what the other one reads. -/
def Dj (q q' : Delta) : Prop := (∀ p ∈ q'.ob, p.1 ∉ q.rd) ∧ (∀ p ∈ q.ob, p.1 ∉ q'.rd) ∧ (∀ p ∈ q.ob, ∀ p' ∈ q'.ob, p.1 ≠ p'.1)
theorem Dj.symm {q q':Delta} (h:Dj q q'):Dj q' q:=⟨h.2.1,h.1,fun p hp p' hp' e=>h.2.2 p' hp' p hp e.symm⟩
theorem putL_comm (l k:List (Nat × AV)) (fr:Fr) (h: ∀ p ∈ l,∀ p' ∈ k,p.1≠p'.1):putL (putL fr l) k=putL (putL fr k) l:=by
 have base: ∀ (l:List (Nat × AV)) (fr:Fr) (t:Nat) (x:AV),(∀ p ∈ l,p.1≠t)→putL (fr.put t x) l=(putL fr l).put t x:=by
  intro l;induction l with
  |nil=>intro fr t x _;rfl
  |cons p r ih=>
   intro fr t x h;obtain⟨u,y⟩:=p;simp only[putL];have hu:u≠t:=h (u,y) (by simp);have e:(fr.put t x).put u y=(fr.put u y).put t x:=by
    funext v;by_cases e1:v=u
    ·subst e1;rw[Fr.put_same,Fr.put_ne _ _ hu,Fr.put_same]
    rw[Fr.put_ne _ _ e1];by_cases e2:v=t
    ·subst e2;rw[Fr.put_same,Fr.put_same]
    rw[Fr.put_ne _ _ e2,Fr.put_ne _ _ e2,Fr.put_ne _ _ e1]
   rw[e,ih _ t x (fun p hp=>h p (by simp[hp]))]
 induction k generalizing fr with
 |nil=>rfl
 |cons p r ih=>
  obtain⟨t,x⟩:=p;simp only[putL];rw[← base l fr t x (fun p hp=>h p hp (t,x) (by simp)),ih _ (fun p hp p' hp'=>h p hp p' (by simp[hp']))]
theorem setL_comm (l k:List (Nat × List DV)) (ob:Ob) (h: ∀ p ∈ l,∀ p' ∈ k,p.1≠p'.1):setL (setL ob l) k=setL (setL ob k) l:=by
 have base: ∀ (l:List (Nat × List DV)) (ob:Ob) (t:Nat) (x:Option (List DV)),(∀ p ∈ l,p.1≠t)→setL (ob.set t x) l=(setL ob l).set t x:=by
  intro l;induction l with
  |nil=>intro fr t x _;rfl
  |cons p r ih=>
   intro ob t x h;obtain⟨u,y⟩:=p;simp only[setL];rw[List.set_comm _ _ (Ne.symm (h (u,y) (by simp))),ih _ t x (fun p hp=>h p (by simp[hp]))]
 induction k generalizing ob with
 |nil=>rfl
 |cons p r ih=>
  obtain⟨t,x⟩:=p;simp only[setL];rw[← base l ob t (some x) (fun p hp=>h p hp (t,x) (by simp)),ih _ (fun p hp p' hp'=>h p hp p' (by simp[hp']))]
/-- Two operations that have nothing to do with one another may change places. -/
theorem swap_ok {o':Oper} {q':Delta} (ha:apartS G c ops o o'=true) (hd:Dj q q') (h1:StepR G c n0 ops o fr ob q) (h2:StepR G c n0 ops o' (putL fr q.sl) (setL ob q.ob) q'):
 StepR G c n0 ops o' fr ob q'∧StepR G c n0 ops o (putL fr q'.sl) (setL ob q'.ob) q∧putL (putL fr q.sl) q'.sl=putL (putL fr q'.sl) q.sl∧setL (setL ob q.ob) q'.ob=setL (setL ob q'.ob) q.ob:=by
 simp only[apartS,Bool.and_eq_true,Bool.not_eq_true']at ha;have f1:=stepR_foot h1;have a1:=meets_false _ _ ha.1.1;have a2:=meets_false _ _ ha.1.2;have a3:=meets_false _ _ ha.2;have g2:StepR G c n0 ops o' fr ob q':=stepR_local (fun t ht=>(putL_out _ _ _ (fun hm=>by
  obtain⟨p,hp,rfl⟩:=List.mem_map.1 hm;exact a1 _ (f1.1 p hp) ht)).symm) h2 (fun k hk=>(setL_out _ _ _ (fun hm=>by
  obtain⟨p,hp,rfl⟩:=List.mem_map.1 hm;exact hd.2.1 p hp hk)).symm)
 have f2:=stepR_foot g2;refine⟨g2,stepR_local (fun t ht=>putL_out _ _ _ (fun hm=>by
  obtain⟨p,hp,rfl⟩:=List.mem_map.1 hm;exact a3 _ (f2.1 p hp) ht)) h1 (fun k hk=>setL_out _ _ _ (fun hm=>by
  obtain⟨p,hp,rfl⟩:=List.mem_map.1 hm;exact hd.1 p hp hk)),putL_comm _ _ _ (fun p hp p' hp' e=>a2 _ (f1.1 p hp) (e ▸ f2.1 p' hp')),setL_comm _ _ _ hd.2.2⟩
/-- Operations one behind the other. -/
def Tr (G : Cfg) (c : FC) (n0 : Nat) (ops : List Oper) : List (Nat × Delta) → Fr → Ob → Fr → Ob → Prop
  | [], fr, ob, fr', ob' => fr' = fr ∧ ob' = ob
  | (i, q) :: l, fr, ob, fr', ob' => (∃ o, ops[i]? = some o ∧ StepR G c n0 ops o fr ob q) ∧ Tr G c n0 ops l (putL fr q.sl) (setL ob q.ob) fr' ob'
theorem Tr.front {fr':Fr} {ob':Ob} {i:Nat}: ∀ (pre post:List (Nat × Delta)) (fr:Fr) (ob:Ob),
 (∀ p ∈ pre,(∀ o o',ops[p.1]? =some o→ops[i]? =some o'→apartS G c ops o o'=true)∧Dj p.2 q)→Tr G c n0 ops (pre++(i,q)::post) fr ob fr' ob'→Tr G c n0 ops ((i,q)::(pre++post)) fr ob fr' ob'
 | [],_,_,_,_,h=>h
 |(j,qj)::pre,post,fr,ob,hp,h=>by
  obtain⟨⟨oj,hj,hsj⟩,h⟩:=h;have h:=Tr.front pre post _ _ (fun p hp'=>hp p (by simp[hp'])) h;obtain⟨⟨oi,hi,hsi⟩,h⟩:=h;obtain⟨k1,k2⟩:=hp (j,qj) (by simp);obtain⟨s1,s2,s3,s4⟩:=swap_ok (k1 oj oi hj hi) k2 hsj hsi;exact⟨⟨oi,hi,s1⟩,⟨oj,hj,s2⟩,by rw[s3,s4]at h;exact h⟩
end
end Go.Proofs.YtcfoebkbahpnaaaGreat.Ab
