/- Regions, code, functions. -/
import Derived.Test.YtcfoebkbahpnaaaGreatZAm
import Derived.Scope
set_option linter.unusedVariables false
set_option linter.unusedSimpArgs false
namespace Go.Proofs.YtcfoebkbahpnaaaGreat.Ab
open Go

section
variable {G : Cfg} {env : Env} {c : FC} {N n0 : Nat} {who : Who} {μ : Nat → Option Nat} {w : World} {a : Act} {fr : Fr} {ob : Ob} {Q : Exit → Act → World → Prop}

/-- What may follow a piece of code. -/
def After (who : Who) (μ : Nat → Option Nat) (w : World) (N n0 : Nat) (ds : List Deferred) (fr : Fr) (ob : Ob) (K : Act → World → Prop) : Prop :=
  ∀ who' μ' w' (a' : Act), Inv who' μ' w' N fr a'.tmps ob → Pres who w who' w' → (∀ k, k < n0 → μ' k = μ k) → a'.defers = ds → K a' w'

theorem putL_le: ∀ (l0 l:List (Nat × AV)) (f0 f:Fr),(∀ t,Le (f0 t) (f t))→l.length=l0.length→(∀ (i:Nat) p p',l0[i]? =some p→l[i]? =some p'→p'.1=p.1∧Le p.2 p'.2)→ ∀ t,Le (putL f0 l0 t) (putL f l t)
 | [],l,f0,f,hf,hl,_,t=>by have:l= []:=List.length_eq_zero_iff.1 hl;subst this;exact hf t
 |(u,x)::r,[],f0,f,hf,hl,_,t=>by simp at hl
 |(u,x)::r,(u',x')::r',f0,f,hf,hl,h,t=>by
  obtain⟨e,hle⟩:=h 0 (u,x) (u',x') rfl rfl;simp only at e hle;subst e;refine putL_le r r' _ _ (fun v=>?_) (by simpa using hl) (fun i p p' hp hp'=>h (i+1) p p' (by simpa using hp) (by simpa using hp')) t;by_cases ev:v=u'
  ·subst ev;rw[Fr.put_same,Fr.put_same];exact hle
  rw[Fr.put_ne _ _ ev,Fr.put_ne _ _ ev];exact hf v
theorem StepK.le {q0 q:Delta} {ds:List Deferred} {K:Act→World→Prop} (h:DLe q0 q) (hk:StepK who μ w N n0 fr ob q ds K):StepK who μ w N n0 fr ob q0 ds K:=fun who' μ' w' a' hI hP hm hd=>by
 have hle:=putL_le q0.sl q.sl fr fr (fun t=>Le.refl _) h.2.2.1 h.2.2.2;refine hk who' μ' w' a' ⟨hI.fresh,hI.size,fun t=>(hle t).1 _ _ _ _ _ (hI.slots t),fun t k off e=>?_,?_⟩ hP hm hd
 ·rw[h.1];exact hI.live t k off (((hle t).2 k off).1 e)
 rw[h.1];exact hI.objs
theorem step_wp {ops:Array Oper} {o:Oper} {q:Delta} (hE:EqOK G) (hI:Inv who μ w N fr a.tmps ob) (hN: ∀ d,o.dst=some d→d<N) (h:StepR G c n0 ops.toList o fr ob q) {K:Act→World→Prop} (hk:StepK who μ w N n0 fr ob q a.defers K):
 if Region.wanted o (yielded ops a.tmps)then o.wp G.P a w K Q else K (a.put o.dst undef) w:=by
 have hw: ∀ b,wantA ops.toList o fr=some b→Region.wanted o (yielded ops a.tmps)=b:=by
  intro b hb;unfold wantA at hb;unfold Region.wanted;cases hg:o.guard with
  |none=>rw[hg]at hb;simp at hb;simp[hb]
  |some gw=>
   obtain⟨j,want⟩:=gw;rw[hg]at hb;simp only at hb ⊢;have hj:ops.toList[j]? =ops[j]?:=(by simp);rw[hj]at hb;cases hd:(ops[j]?).bind (·.dst)with
   |none=>rw[hd]at hb;cases hb
   |some d=>
    rw[hd]at hb;simp only at hb;have hs:=hI.slots d;have hy: ∀ v:Value,a.tmps.getD d undef=v→v≠undef→a.tmps[d]? =some v:=fun v hv hne=>by
     rw[Array.getD_eq_getD_getElem?]at hv;cases hx:a.tmps[d]? with
     |none=>rw[hx]at hv;exact absurd hv.symm hne
     |some u=>rw[hx]at hv;simp at hv;rw[hv]
    split at hb
    ·rename_i b' hf;rw[hf]at hs;have:=hs.1.v_inv;have h2:=hy _ this (by simp[undef]);simp only[yielded,hd,Option.bind_some,h2];simp at hb;subst hb;rfl
    ·rename_i hf;rw[hf]at hs;have h1:=hs.1;have h3:a.tmps.getD d undef= .tuple #[]:=by
      generalize a.tmps.getD d undef=v at h1;cases h1;rename_i arr hl _;have:arr= #[]:=by simpa using hl
      rw[this]
     simp at hb;subst hb;have:yielded ops a.tmps j=none:=by
      simp only[yielded,hd,Option.bind_some];rw[Array.getD_eq_getD_getElem?]at h3;cases hx:a.tmps[d]? with
      |none=>rfl
      |some u=>rw[hx]at h3;simp at h3;rw[h3]
     rw[this];rfl
    cases hb
 rcases h with ⟨h1,q0,h2,hle⟩|⟨h1,rfl⟩
 ·rw[hw _ h1,if_pos rfl];have hk:=hk.le hle;rcases h2 with ⟨f,as,tys,c1,r,he,k1,k2,k3,k4⟩|h2
  ·exact call_ok (as:=(as.toList,tys)) (ts:=(as.toList,tys)) hI hN (by rw[he]) k1 k2 k3 k4 hk
  exact run_ok hE hI hN h2 hk
 rw[hw _ h1,if_neg (by simp)];cases hd:o.dst with
 |none=>
  refine hk who μ w _ ?_ (Pres.refl hI.fresh) (fun _ _=>rfl) rfl;simp only[undefA,hd,putL,setL];exact hI
 |some d=>
  refine hk who μ w _ ?_ (Pres.refl hI.fresh) (fun _ _=>rfl) rfl;simp only[undefA,hd,putL,setL];exact hI.put (hN d hd) ⟨.tu rfl (fun i x y h=>by simp at h),fun vs hv j y u h=>by simp at h⟩ (fun k off e=>nomatch e)
/-- Operations in the text's order. -/
theorem reg_list (hE:EqOK G) (hV:EnvOK G.P env) {ops:Array Oper}: ∀ (rest:List Oper) (bs:List Nat) (i:Nat) (acc:List (Nat × List Nat × List Nat)) (fr:Fr) (ob:Ob) {K:Fr→Ob→Option R} {r:R} {who:Who} {μ:Nat→Option Nat} {w:World} {a:Act},
 (∀ o ∈ rest,okDst N o=true)→Inv who μ w N fr a.tmps ob→regC G env c n0 ops.toList false rest bs i acc fr ob K=some r→(∀ fr' ob',K fr' ob'=some r→After who μ w N n0 a.defers fr' ob' (Q .normal))→wpList G.P ops Q rest a w
 | [],bs,i,acc,fr,ob,K,r,who,μ,w,a,hN,hI,h,hk=>hk fr ob h who μ w a hI (Pres.refl hI.fresh) (fun _ _=>rfl) rfl
 |o::rest,bs,i,acc,fr,ob,K,r,who,μ,w,a,hN,hI,h,hk=>by
  simp only[regC]at h;obtain⟨q,h1,h2,_⟩:=stepC_ok hV h;simp only[Bool.not_false,Bool.true_or,cond_true]at h2;have hNo: ∀ d,o.dst=some d→d<N:=fun d hd=>by
   have:=hN o (by simp);rw[okDst,hd]at this;exact Nat.le_of_ble_eq_true this
  (refine wpList_step fun K' hK'=>step_wp hE hI hNo h1 fun who' μ' w' a' hI' hP' hm' hd'=>hK' _ _ ?_);(refine reg_list hE hV rest _ _ _ _ _ (fun o ho=>hN o (by simp[ho])) hI' h2 fun fr'' ob'' hK who2 μ2 w2 a2 g1 g2 g3 g4=>?_);exact hk fr'' ob'' hK who2 μ2 w2 a2 g1 (hP'.trans g2) (fun k hk=>(g3 k hk).trans (hm' k hk)) (g4.trans hd')
/-! Whatever order is drawn -/
def bsf (ops : Array Oper) (i : Nat) : Nat := (befA ops.toList []).getD i 0
theorem befA_spec: ∀ (l:List Oper) (acc:List Nat),∃ bs,befA l acc=acc++bs∧bs.length=l.length∧ ∀ (i:Nat) o,l[i]? =some o→(acc++bs)[acc.length+i]? =some (anc1 ((acc++bs).take (acc.length+i)) o.after.toList)
 | [],acc=>⟨[],by simp[befA],rfl,fun i o h=>by simp at h⟩
 |o::r,acc=>by
  obtain⟨bs,h1,h2,h3⟩:=befA_spec r (acc++ [anc1 acc o.after.toList]);refine⟨anc1 acc o.after.toList::bs,by simp only[befA];rw[h1];simp,by simp[h2],fun i o' h=>?_⟩;cases i with
  |zero=>simp at h;subst h;simp
  |succ i=>
   have:=h3 i o' (by simpa using h);simp only[List.append_assoc,List.singleton_append,List.length_append,List.length_cons,List.length_nil]at this;rw[show acc.length+(i+1)=acc.length+(0+1)+i from by omega];exact this
theorem anc1_bit (bs:List Nat) (p:Nat): ∀ l:List Edge,(anc1 bs l).testBit p=true→ ∃ e ∈ l,Region.binds .any e=true∧(e.on=p∨(bs.getD e.on 0).testBit p=true)
 | [],h=>by simp[anc1]at h
 |e::r,h=>by
  simp only[anc1]at h;cases hb:Region.binds .any e with
  |false=>
   rw[hb]at h;obtain⟨e',h1,h2⟩:=anc1_bit bs p r h;exact⟨e',by simp[h1],h2⟩
  |true=>
   rw[hb]at h;simp only[cond_true,Nat.testBit_or,Bool.or_eq_true]at h;rcases h with (h|h)|h
   ·rw[Nat.testBit_two_pow]at h;exact⟨e,by simp,hb,.inl (by simpa using h)⟩
   ·exact⟨e,by simp,hb,.inr h⟩
   obtain⟨e',h1,h2⟩:=anc1_bit bs p r h;exact⟨e',by simp[h1],h2⟩
theorem bsf_bit {ops:Array Oper} {i p:Nat} {o:Oper} (ho:ops[i]? =some o) (h:(bsf ops i).testBit p=true): ∃ e ∈ o.after,Region.binds .any e=true∧(e.on=p∨(e.on<i∧(bsf ops e.on).testBit p=true)):=by
 obtain⟨bs,h1,h2,h3⟩:=befA_spec ops.toList [];simp only[List.nil_append,List.length_nil,Nat.zero_add]at h1 h3;have hi:=h3 i o (by simpa using ho);have hb:bsf ops i=anc1 (bs.take i) o.after.toList:=(by rw[bsf,h1,List.getD,hi];rfl);rw[hb]at h;obtain⟨e,he,hbn,hor⟩:=anc1_bit _ p _ h;refine⟨e,by simpa using he,hbn,hor.imp id fun h=>?_⟩;rcases Nat.lt_or_ge e.on i with hlt|hge
 ·refine⟨hlt,?_⟩;rw[bsf,h1];rw[List.getD,List.getElem?_take,if_pos hlt]at h;exact h
 rw[List.getD,List.getElem?_take,if_neg (by omega)]at h;simp at h
def ClA (ops : Array Oper) : List (Nat × List Nat × List Nat) → List (Nat × Delta) → Prop
  | _, [] => True
  | acc, (j, q) :: l => okFoot (bsf ops j) q.rd (q.ob.map (·.1)) acc = true ∧ ClA ops ((j, q.rd, q.ob.map (·.1)) :: acc) l
theorem regC_tr (hV:EnvOK G.P env) {ops:Array Oper}: ∀ (rest:List Oper) (bs:List Nat) (i:Nat) (acc:List (Nat × List Nat × List Nat)) (fr:Fr) (ob:Ob) {K:Fr→Ob→Option R} {r:R},
 regC G env c n0 ops.toList true rest bs i acc fr ob K=some r→(∀ (j:Nat) o,rest[j]? =some o→ops.toList[i+j]? =some o)→(∀ j,j<rest.length→bs.getD j 0=bsf ops (i+j))→
 ∃ l frF obF,l.map (·.1)=List.range' i rest.length∧Tr G c n0 ops.toList l fr ob frF obF∧K frF obF=some r∧ClA ops acc l
 | [],bs,i,acc,fr,ob,K,r,h,_,_=>⟨[],fr,ob,rfl,⟨rfl,rfl⟩,h,trivial⟩
 |o::rest,bs,i,acc,fr,ob,K,r,h,ho,hb=>by
  simp only[regC]at h;obtain⟨q,h1,h2,_⟩:=stepC_ok hV h;simp only[Bool.not_true,Bool.false_or,cond_true]at h2;obtain⟨hfoot,h2⟩:=bif_some h2;obtain⟨l,frF,obF,k1,k2,k3,k4⟩:=regC_tr hV rest bs.tail (i+1) _ _ _ h2 (fun j o' hj=>by rw[show i+1+j=i+(j+1)from by omega];exact ho (j+1) o' (by simpa using hj))
   (fun j hj=>by rw[show i+1+j=i+(j+1)from by omega,← hb (j+1) (by simp;omega)];cases bs<;>simp)
  refine⟨(i,q)::l,frF,obF,by simp[k1,List.range'_succ],⟨⟨o,by simpa using ho 0 o rfl,h1⟩,k2⟩,k3,?_,k4⟩;have:=hb 0 (by simp);rw[Nat.add_zero]at this;rw[← this];have e:bs.getD 0 0=bs.headD 0:=by cases bs<;>rfl
  rw[e];exact hfoot
def Cl (ops : Array Oper) (x y : Nat × Delta) : Prop := (bsf ops y.1).testBit x.1 = true ∨ Dj x.2 y.2
theorem okFoot_mem (b:Nat) (rd wr:List Nat): ∀ acc,okFoot b rd wr acc=true→ ∀ i rd' wr',(i,rd',wr') ∈ acc→b.testBit i=true∨((∀ k ∈ wr,k ∉ rd')∧(∀ k ∈ wr,k ∉ wr')∧ ∀ k ∈ rd,k ∉ wr')
 | [],_,i,rd',wr',h=>by cases h
 |(i0,r0,w0)::acc,h,i,rd',wr',hm=>by
  simp only[okFoot,Bool.and_eq_true,Bool.or_eq_true,Bool.not_eq_true']at h;rcases List.mem_cons.1 hm with e|hm
  ·cases e
   exact h.1.imp id fun h=>⟨meets_false _ _ h.1.1,meets_false _ _ h.1.2,meets_false _ _ h.2⟩
  exact okFoot_mem b rd wr acc h.2 i rd' wr' hm
theorem ClA_pw {ops:Array Oper}: ∀ (l:List (Nat × Delta)) (acc:List (Nat × List Nat × List Nat)),ClA ops acc l→
 (∀ x ∈ l,∀ i rd wr,(i,rd,wr) ∈ acc→(bsf ops x.1).testBit i=true∨((∀ k ∈ x.2.ob.map (·.1),k ∉ rd)∧(∀ k ∈ x.2.ob.map (·.1),k ∉ wr)∧ ∀ k ∈ x.2.rd,k ∉ wr))∧l.Pairwise (Cl ops)
 | [],acc,_=>⟨fun x h=>absurd h List.not_mem_nil,List.Pairwise.nil⟩
 |(j,q)::l,acc,⟨h1,h2⟩=>by
  obtain⟨k1,k2⟩:=ClA_pw l _ h2;refine⟨fun x hx i rd wr hm=>?_,List.Pairwise.cons (fun x hx=>?_) k2⟩
  ·rcases List.mem_cons.1 hx with rfl|hx
   ·exact okFoot_mem _ _ _ acc h1 i rd wr hm
   exact k1 x hx i rd wr (by simp[hm])
  refine(k1 x hx j q.rd (q.ob.map (·.1)) (by simp)).imp id fun h=>⟨fun p hp=>?_,fun p hp hk=>?_,fun p hp p' hp' e=>?_⟩
  ·exact h.1 p.1 (List.mem_map.2 ⟨p,hp,rfl⟩)
  ·exact h.2.2 p.1 hk (List.mem_map.2 ⟨p,hp,rfl⟩)
  exact h.2.1 p'.1 (List.mem_map.2 ⟨p',hp',rfl⟩) (List.mem_map.2 ⟨p,hp,e⟩)
structure RegOK (G : Cfg) (c : FC) (ops : Array Oper) : Prop where
  back : ∀ (i : Nat) o, ops[i]? = some o → ∀ e ∈ o.after, Region.binds .any e = true → e.on < i
  apart : ∀ (i j : Nat) x y, ops[i]? = some x → ops[j]? = some y → i < j → (bsf ops j).testBit i = true ∨ apartS G c ops.toList x y = true
theorem okAhead_mem {ops:List Oper} {y:Oper} {b:Nat}: ∀ (l:List Oper) (i:Nat),okAhead G c ops y b l i=true→ ∀ (j:Nat) x,l[j]? =some x→b.testBit (i+j)=true∨apartS G c ops x y=true
 | [],i,_,j,x,h=>by simp at h
 |z::r,i,h,j,x,hx=>by
  simp only[okAhead,Bool.and_eq_true,Bool.or_eq_true]at h;cases j with
  |zero=>simp at hx;subst hx;exact h.1
  |succ j=>rw[show i+(j+1)=i+1+j from by omega];exact okAhead_mem r (i+1) h.2 j x (by simpa using hx)
theorem okReg_spec {ops:List Oper}: ∀ (rest:List Oper) (bs:List Nat) (i:Nat),okReg G c ops rest bs i=true→ ∀ (j:Nat) y,rest[j]? =some y→
 (∀ e ∈ y.after,Region.binds .any e=true→e.on<i+j)∧okAhead G c ops y (bs.getD j 0) (ops.take (i+j)) 0=true
 | [],bs,i,_,j,y,h=>by simp at h
 |o::r,bs,i,h,j,y,hy=>by
  simp only[okReg,Bool.and_eq_true]at h;cases j with
  |zero=>
   simp at hy;subst hy;refine⟨fun e he hb=>?_,?_⟩
   ·have:=List.all_eq_true.1 h.1.1 e (by simpa using he);(rw[hb]at this;have h3:e.on+1≤i:=by simpa [Nat.blt]using this);omega
   have e:bs.getD 0 0=bs.headD 0:=by cases bs<;>rfl
   rw[e];exact h.1.2
  |succ j=>
   have:=okReg_spec r bs.tail (i+1) h.2 j y (by simpa using hy);rw[show i+(j+1)=i+1+j from by omega];have e:bs.tail.getD j 0=bs.getD (j+1) 0:=by cases bs<;>simp
   rw[← e];exact this
theorem okReg_ok {ops:Array Oper} (h:okReg G c ops.toList ops.toList (befs ops true) 0=true):RegOK G c ops:=by
 have hs:=okReg_spec _ _ _ h;refine⟨fun i o ho e he hb=>by have:=(hs i o (by simpa using ho)).1 e he hb;omega,fun i j x y hx hy hij=>?_⟩;have h2:=(hs j y (by simpa using hy)).2;rw[Nat.zero_add]at h2;have:=okAhead_mem _ 0 h2 i x (by rw[List.getElem?_take,if_pos hij];simpa using hx);rw[Nat.zero_add]at this;exact this
def Down (ops : Array Oper) (listed : Array Bool) : Prop := ∀ (i : Nat) o, ops[i]? = some o → listed.getD i false = true → ∀ e ∈ o.after, Region.binds .any e = true → listed.getD e.on false = true
theorem anc_listed {ops:Array Oper} {listed:Array Bool} (hD:Down ops listed) (hR:RegOK G c ops) (p:Nat): ∀ (n i:Nat),i≤n→ ∀ o,ops[i]? =some o→(∀ e ∈ o.after,Region.binds .any e=true→listed.getD e.on false=true)→(bsf ops i).testBit p=true→listed.getD p false=true:=by
 intro n;induction n with
 |zero=>
  intro i hi o ho he hb;obtain⟨e,h1,h2,h3⟩:=bsf_bit ho hb;have:=hR.back i o ho e h1 h2;omega
 |succ n ih=>
  intro i hi o ho he hb;obtain⟨e,h1,h2,h3⟩:=bsf_bit ho hb;rcases h3 with rfl|⟨h3,h4⟩
  ·exact he e h1 h2
  have hlt:e.on<ops.size:=(by have:=(Array.getElem?_eq_some_iff.1 ho).1;omega);have hoe:ops[e.on]? =some ops[e.on]:=Array.getElem?_eq_getElem hlt;exact ih e.on (by omega) _ hoe (hD e.on _ hoe (he e h1 h2)) h4
theorem range_filter_sorted (n:Nat) (p:Nat→Bool):((List.range n).filter p).Pairwise (·< ·):=List.Pairwise.filter p List.pairwise_lt_range
theorem any_ok (hE : EqOK G) {ops : Array Oper} (hR : RegOK G c ops) (hN : ∀ o ∈ ops, okDst N o = true) {F : Fr} {O : Ob} : ∀ (n : Nat) (l : List (Nat × Delta)) (listed : Array Bool) (fr : Fr) (ob : Ob) {who : Who} {μ : Nat → Option Nat} {w : World} {a : Act}, l.length = n → listed.size = ops.size →
    l.map (·.1) = (List.range ops.size).filter (fun i => !listed.getD i true) → Tr G c n0 ops.toList l fr ob F O → l.Pairwise (Cl ops) → Inv who μ w N fr a.tmps ob → Down ops listed → After who μ w N n0 a.defers F O (Q .normal) → wpAny G.P .any ops Q n listed a w
  | 0, l, listed, fr, ob, who, μ, w, a, hl, hsz, hm, hT, hP, hI, hD, hk => by
    have : l = [] := List.length_eq_zero_iff.1 hl
    subst this
    obtain ⟨rfl, rfl⟩ := hT
    refine ⟨?_, hk who μ w a hI (Pres.refl hI.fresh) (fun _ _ => rfl) rfl⟩
    unfold Region.ready
    rw [List.filter_eq_nil_iff]
    intro i hi
    simp only [List.map_nil] at hm
    have := List.filter_eq_nil_iff.1 hm.symm i hi
    simp only [Bool.not_eq_true', Bool.not_eq_false] at this
    simp [this]
  | n + 1, l, listed, fr, ob, who, μ, w, a, hl, hsz, hm, hT, hP, hI, hD, hk => by
    have hunl : ∀ i, i ∈ l.map (·.1) ↔ i < ops.size ∧ listed.getD i true = false := fun i => by rw [hm]; simp
    have hsorted : (l.map (·.1)).Pairwise (· < ·) := by rw [hm]; exact range_filter_sorted _ _
    have hgd : ∀ i, i < ops.size → listed.getD i true = listed.getD i false := fun i hi => by
      rw [Array.getD_eq_getD_getElem?, Array.getD_eq_getD_getElem?, Array.getElem?_eq_getElem (by omega)]; rfl
    refine ⟨fun hempty => ?_, fun i hi => ?_⟩
    · -- the first one may come
      cases l with
      | nil => simp at hl
      | cons x l =>
        exfalso
        obtain ⟨hx1, hx2⟩ := (hunl x.1).1 (by simp)
        have hox : ops[x.1]? = some ops[x.1] := Array.getElem?_eq_getElem hx1
        have : x.1 ∈ Region.ready .any ops listed := mem_ready.2 ⟨hx2, _, hox, fun e he hb => by
          have hlt := hR.back x.1 _ hox e he hb
          rw [← hgd e.on (by omega)]
          cases hl2 : listed.getD e.on true with
          | true => rfl
          | false =>
            have hmem := (hunl e.on).2 ⟨by omega, hl2⟩
            simp only [List.map_cons, List.mem_cons] at hmem
            rcases hmem with h | h
            · omega
            simp only [List.map_cons] at hsorted
            have := (List.pairwise_cons.1 hsorted).1 e.on h; omega⟩
        rw [hempty] at this; cases this
    obtain ⟨hi1, o, ho, hedges⟩ := mem_ready.1 hi
    have hio : i < ops.size := (Array.getElem?_eq_some_iff.1 ho).1
    obtain ⟨x, hx, hxi⟩ := List.mem_map.1 ((hunl i).2 ⟨hio, hi1⟩)
    obtain ⟨j, q⟩ := x
    simp only at hxi; subst hxi
    obtain ⟨pre, post, rfl⟩ := List.append_of_mem hx
    have hlt : ∀ p ∈ pre, p.1 < j := fun p hp => by
      rw [List.map_append, List.pairwise_append] at hsorted
      exact hsorted.2.2 p.1 (List.mem_map.2 ⟨p, hp, rfl⟩) j (by simp)
    have hfront := Tr.front pre post fr ob (fun p hp => by
      have hpu := (hunl p.1).1 (by simp; exact .inl ⟨p.2, hp⟩)
      have hnb : ¬ (bsf ops j).testBit p.1 = true := fun h => by
        have := anc_listed hD hR p.1 j j (Nat.le_refl _) o ho hedges h
        rw [← hgd p.1 hpu.1, hpu.2] at this; cases this
      refine ⟨fun x y hx hy => ?_, ?_⟩
      · exact (hR.apart p.1 j x y (by simpa using hx) (by simpa using hy) (hlt p hp)).resolve_left hnb
      rw [List.pairwise_append] at hP
      exact (hP.2.2 p hp (j, q) (by simp)).resolve_left hnb) hT
    obtain ⟨⟨o', ho', hstep⟩, hrest⟩ := hfront
    have hoo : o' = o := by simp at ho'; rw [ho] at ho'; cases ho'; rfl
    subst hoo
    have hNo : ∀ d, o'.dst = some d → d < N := fun d hd => by
      have := hN o' (Array.mem_of_getElem? ho); rw [okDst, hd] at this; exact Nat.le_of_ble_eq_true this
    have hstepwp := fun K hk => step_wp (Q := Q) hE hI hNo hstep (K := K) hk
    have key : StepK who μ w N n0 fr ob q a.defers (wpAny G.P .any ops Q n (listed.setIfInBounds j true)) := fun who' μ' w' a' hI' hP' hm' hd' => by
      refine any_ok hE hR hN n (pre ++ post) _ _ _ (by simp at hl ⊢; omega) (by simpa using hsz) ?_ hrest (hP.sublist (by simp)) hI' (fun i2 o2 h2 hl2 e he hb => ?_) (fun who2 μ2 w2 a2 g1 g2 g3 g4 => hk who2 μ2 w2 a2 g1 (hP'.trans g2) (fun k hk => (g3 k hk).trans (hm' k hk)) (g4.trans hd'))
      · have hnd : (pre.map (·.1) ++ j :: post.map (·.1)).Nodup := by
          have := hsorted.imp (S := (· ≠ ·)) (fun h => Nat.ne_of_lt h); rw [List.map_append, List.map_cons] at this; exact this
        have e1 : (pre ++ post).map (·.1) = ((pre ++ (j, q) :: post).map (·.1)).filter (fun i => i != j) := by
          simp only [List.map_append, List.map_cons, List.filter_append, List.filter_cons, bne_self_eq_false, Bool.false_eq_true, if_false]
          rw [List.nodup_append] at hnd
          have f1 : (pre.map (·.1)).filter (fun i => i != j) = pre.map (·.1) := List.filter_eq_self.2 fun i hi => by simp; exact hnd.2.2 i hi j (by simp)
          have f2 : (post.map (·.1)).filter (fun i => i != j) = post.map (·.1) := List.filter_eq_self.2 fun i hi2 => by
            simp; intro e; subst e; exact (List.nodup_cons.1 hnd.2.1).1 hi2
          rw [f1, f2]
        rw [e1, hm, List.filter_filter]
        refine List.filter_congr fun i2 hi2 => ?_
        by_cases e : i2 = j
        · subst e; simp [Array.getD_eq_getD_getElem?, hsz, hio]
        rw [getD_set_ne true (Ne.symm e)]; simp [e]
      by_cases e2 : i2 = j
      · subst e2
        rw [ho] at h2; cases h2
        exact getD_set_true (hedges e he hb)
      rw [getD_set_ne false (Ne.symm e2)] at hl2
      exact getD_set_true (hD i2 o2 h2 hl2 e he hb)
    have := hstepwp _ key
    unfold wpOp
    simp only [ho]
    split
    · rename_i hw; rw [if_pos hw] at this; exact .inl this
    rename_i hw; rw [if_neg hw] at this; exact this

theorem Inv.drew (hI:Inv who μ w N fr a.tmps ob):Inv who μ {w with drawn:=w.drawn+1} N fr a.tmps ob∧Pres who w who {w with drawn:=w.drawn+1}:=by
 have hP:Pres who w who {w with drawn:=w.drawn+1}:=⟨Nat.le_refl _,rfl,rfl,rfl,fun _ _=>BP.refl _ _,fun _ _ _ h=>h,fun _ _ _=>Iff.rfl,fun b o h=>by rw[hI.fresh b o h];simp⟩;exact⟨hI.upd hP hI.fresh hI.size (fun t=> .inl ⟨rfl,rfl,fun _ _ _ _ h=>h,fun _ _ _=>rfl⟩) hI.live (hI.objs.pres hP (fun _ _ _=>rfl) (fun _ _ _ _ _ _=>rfl) (fun _ _ _ _ h=>h) (fun _ _ _ _ _ h=>h)),hP⟩
theorem region_ok (hE:EqOK G) (hV:EnvOK G.P env) (hM:G.P.follows .mixedOrders=true) {id:Nat} {ops:Array Oper} {draw:Bool} {K:Fr→Ob→Option R} {r:R} (hok:okCode G c N (.region id ops draw)=true) (hI:Inv who μ w N fr a.tmps ob)
 (h:regC G env c n0 ops.toList draw ops.toList (befs ops draw) 0 [] fr ob K=some r) (hk: ∀ fr' ob',K fr' ob'=some r→After who μ w N n0 a.defers fr' ob' (Q .normal)):(Code.region id ops draw).wp G.P Q a w:=by
 simp only[okCode,Bool.and_eq_true,Bool.or_eq_true,Bool.not_eq_true']at hok;have hN: ∀ o ∈ ops.toList,okDst N o=true:=List.all_eq_true.1 hok.1;cases draw with
 |false=>exact wp_region_list (reg_list hE hV _ _ _ _ _ _ hN hI h hk)
 |true=>
  have hR:=okReg_ok (hok.2.resolve_left (by simp));obtain⟨l,F,O,h1,h2,h3,h4⟩:=regC_tr hV _ _ _ _ _ _ h (fun j o hj=>by rw[Nat.zero_add];exact hj) (fun j hj=>by rw[Nat.zero_add];rfl);obtain⟨hI',hP'⟩:=hI.drew;refine wp_region_any hM ?_;have hlen:l.length=ops.size:=(by have:=congrArg List.length h1;simpa using this);refine any_ok hE hR (fun o ho=>hN o (by simpa using ho)) ops.size l (Array.replicate ops.size false) fr ob hlen (by simp) ?_ h2 (ClA_pw l [] h4).2 hI' (fun i o ho hl=>?_) (fun who2 μ2 w2 a2 g1 g2 g3 g4=>hk F O h3 who2 μ2 w2 a2 g1 (hP'.trans g2) g3 g4)
  ·rw[h1,← List.range_eq_range'];simp only[Array.length_toList];refine(List.filter_eq_self.2 fun i hi=>?_).symm;have:=List.mem_range.1 hi;simp[Array.getD_eq_getD_getElem?,this]
  exfalso;have hlt:=(Array.getElem?_eq_some_iff.1 ho).1;simp[Array.getD_eq_getD_getElem?,hlt]at hl
def toEx : AEx → Exit
  | .nrm => .normal
  | .ext i => .exit i
  | .ret => .ret
/-- What may follow, whichever way the code is left. -/
def AfterK (who : Who) (μ : Nat → Option Nat) (w : World) (N n0 : Nat) (ds : List Deferred) (K : KF) (r : R) (Q : Exit → Act → World → Prop) : Prop :=
  ∀ ex fr ob, K ex fr ob = some r → After who μ w N n0 ds fr ob (Q (toEx ex))

theorem After.step {who':Who} {μ':Nat→Option Nat} {w':World} {ds:List Deferred} {fr:Fr} {ob:Ob} {K:Act→World→Prop} (h:After who μ w N n0 ds fr ob K) (hP:Pres who w who' w') (hm: ∀ k,k<n0→μ' k=μ k):After who' μ' w' N n0 ds fr ob K:=
 fun who2 μ2 w2 a2 g1 g2 g3 g4=>h who2 μ2 w2 a2 g1 (hP.trans g2) (fun k hk=>(g3 k hk).trans (hm k hk)) g4
theorem ofL_get: ∀ (l:List Nat) (g:Nat→AV) (t:Nat),Fr.ofL (l.map fun u=>(u,g u)) t=g t∨Fr.ofL (l.map fun u=>(u,g u)) t= .un
 | [],g,t=> .inr rfl
 |u::r,g,t=>by
  simp only[List.map_cons,Fr.ofL];cases h:Nat.beq u t with
  |true=>have:=Nat.eq_of_beq_eq_true h;subst this;exact .inl rfl
  |false=>exact ofL_get r g t
/-- Less is known of the slots, and some objects are forgotten. -/
theorem Inv.head (hI:Inv who μ w N fr a.tmps ob) (L bx:List Nat):Inv who μ w N (headF L bx fr) a.tmps (headO bx ob):=by
 have hO: ∀ (bx:List Nat) (ob:Ob) (k:Nat) (cs:List DV),(headO bx ob)[k]? =some (some cs)→ob[k]? =some (some cs):=by
  intro bx;induction bx with
  |nil=>intro ob k cs h;exact h
  |cons b r ih=>
   intro ob k cs h;have:=ih _ k cs h;rw[List.getElem?_set]at this;split at this
   ·split at this<;>cases this
   exact this
 have hO2: ∀ (bx:List Nat) (ob:Ob) (k:Nat) (cs:List DV),mem k bx=false→ob[k]? =some (some cs)→(headO bx ob)[k]? =some (some cs):=by
  intro bx;induction bx with
  |nil=>intro ob k cs _ h;exact h
  |cons b r ih=>
   intro ob k cs hm h;simp only[mem]at hm;cases hb:Nat.beq b k with
   |true=>rw[hb]at hm;cases hm
   |false=>rw[hb]at hm;exact ih _ k cs hm (by rw[List.getElem?_set,if_neg (fun e=>by subst e;simp at hb)];exact h)
 (have hF: ∀ t,headF L bx fr t=purge bx (fr t)∨headF L bx fr t= .un:=fun t=>ofL_get L (fun t=>purge bx (fr t)) t);refine⟨hI.fresh,hI.size,fun t=>?_,fun t k off h=>?_,fun k cs h=>hI.objs k cs (hO bx ob k cs h)⟩
 ·have hs:=hI.slots t;rcases hF t with e|e<;>rw[e]
  ·cases hf:fr t with
   |pt k off=>
    rw[hf]at hs;simp only[purge];cases mem k bx
    ·exact hs
    trivial
   |_=>rw[hf]at hs;exact hs
  trivial
 rcases hF t with e|e<;>rw[e]at h
 ·cases hf:fr t with
  |pt k' off'=>
   rw[hf]at h;simp only[purge]at h;cases hm:mem k' bx with
   |true=>rw[hm]at h;cases h
   |false=>
    rw[hm]at h;simp at h;obtain⟨rfl,rfl⟩:=h;obtain⟨cs,hcs⟩:=hI.live t k' off' hf;exact⟨cs,hO2 bx ob k' cs hm hcs⟩
  |_=>rw[hf]at h;cases h
 cases h
theorem canO_get (n0:Nat) (L:List Nat) (fr:Fr): ∀ (ob:Ob) (i k:Nat),(canO n0 L fr i ob)[k]? =(ob[k]?).map fun c=>bif Nat.blt (i+k) n0||pointed fr (i+k) L then c else none
 | [],i,k=>by simp[canO]
 |c::r,i,0=>by simp[canO]
 |c::r,i,k+1=>by simp only[canO,List.getElem?_cons_succ];rw[canO_get n0 L fr r (i+1) k];rw[show i+1+k=i+(k+1)from by omega]
theorem pointed_of {fr:Fr} {k off:Nat}: ∀ {L:List Nat} {t:Nat},t ∈ L→fr t= .pt k off→pointed fr k L=true
 |u::r,t,h,e=>by
  rcases List.mem_cons.1 h with rfl|h
  ·simp only[pointed,e,Nat.beq_refl,Bool.true_or]
  simp only[pointed,pointed_of h e,Bool.or_true]
theorem ofL_in: ∀ (l:List Nat) (g:Nat→AV) (t:Nat),(t ∈ l∧Fr.ofL (l.map fun u=>(u,g u)) t=g t)∨Fr.ofL (l.map fun u=>(u,g u)) t= .un
 | [],g,t=> .inr rfl
 |u::r,g,t=>by
  simp only[List.map_cons,Fr.ofL];cases h:Nat.beq u t with
  |true=>have:=Nat.eq_of_beq_eq_true h;subst this;exact .inl ⟨List.mem_cons_self ..,rfl⟩
  |false=>rcases ofL_in r g t with ⟨h1,h2⟩|h1;exact .inl ⟨List.mem_cons_of_mem _ h1,h2⟩;exact .inr h1
theorem Inv.can (hI:Inv who μ w N fr a.tmps ob) (n0:Nat) (L:List Nat):Inv who μ w N (canF L fr) a.tmps (canO n0 L fr 0 ob):=by
 refine⟨hI.fresh,hI.size,fun t=>?_,fun t k off h=>?_,fun k cs h=>?_⟩
 ·rcases ofL_in L fr t with ⟨_,e⟩|e
  ·unfold canF;rw[e];exact hI.slots t
  unfold canF;rw[e];trivial
 ·unfold canF at h;rcases ofL_in L fr t with ⟨h1,e⟩|e
  ·rw[e]at h;obtain⟨cs,hcs⟩:=hI.live t k off h;exact⟨cs,by rw[canO_get,hcs];simp[pointed_of h1 h]⟩
  rw[e]at h;cases h
 rw[canO_get]at h;cases ho:ob[k]? with
 |none=>rw[ho]at h;cases h
 |some c=>
  rw[ho]at h;simp only[Option.map_some,Option.some.injEq]at h;cases hb:(Nat.blt (0+k) n0||pointed fr (0+k) L)with
  |true=>rw[hb,cond_true]at h;subst h;exact hI.objs k cs ho
  |false=>rw[hb]at h;cases h
theorem Inv.head2 (hI:Inv who μ w N fr a.tmps ob) (n0:Nat) (L bx:List Nat):Inv who μ w N (headF L bx fr) a.tmps (headO2 n0 L bx fr ob):=by
 have h1:=hI.head L bx;have h2:=h1.can n0 L;refine⟨h1.fresh,h1.size,h1.slots,fun t k off h=>?_,h2.objs⟩;rcases ofL_in L (fun t=>purge bx (fr t)) t with ⟨hm,e⟩|e
 ·obtain⟨cs,hcs⟩:=h1.live t k off h;exact⟨cs,by unfold headO2;rw[canO_get,hcs];simp[pointed_of hm h]⟩
 have:headF L bx fr t= .un:=e;rw[this]at h;cases h
theorem loop_ok {hd:Fr→Fr} {ho:Fr→Ob→Ob} {body:Fr→Ob→KF→Option R} {bc:Code} {r:R} {Q:Exit→Act→World→Prop}
 (hhead: ∀ {who μ w} {a:Act} {fr ob},Inv who μ w N fr a.tmps ob→Inv who μ w N (hd fr) a.tmps (ho fr ob))
 (hbody: ∀ {who μ w} {a:Act} {fr ob} {K:KF} {Q:Exit→Act→World→Prop},Inv who μ w N fr a.tmps ob→body fr ob K=some r→AfterK who μ w N n0 a.defers K r Q→bc.wp G.P Q a w):
 ∀ (n:Nat) {who:Who} {μ:Nat→Option Nat} {w:World} {a:Act} {fr:Fr} {ob:Ob} {K:KF},Inv who μ w N fr a.tmps ob→loopA hd ho body n fr ob K=some r→AfterK who μ w N n0 a.defers K r Q→Code.rounds G.P bc Q n a w
 |0,who,μ,w,a,fr,ob,K,hI,h,hk=>by simp[loopA]at h
 |n+1,who,μ,w,a,fr,ob,K,hI,h,hk=>by
  simp only[loopA]at h;rw[rounds_succ];(refine hbody hI h fun ex fr' ob' he who' μ' w' a' hI' hP' hm' hd'=>?_);cases ex with
  |nrm=>
   (show Code.rounds G.P bc Q n a' w');exact loop_ok hhead hbody n (hhead hI') he (fun ex fr2 ob2 h2=>by rw[hd'];exact(hk ex fr2 ob2 h2).step hP' hm')
  |ext i=>exact hk (.ext i) fr' ob' he who' μ' w' a' hI' hP' hm' hd'
  |ret=>exact hk .ret fr' ob' he who' μ' w' a' hI' hP' hm' hd'
theorem code_ok (hE:EqOK G) (hV:EnvOK G.P env) (hM:G.P.follows .mixedOrders=true) (n:Nat): ∀ (cd:Code) {who:Who} {μ:Nat→Option Nat} {w:World} {a:Act} {fr:Fr} {ob:Ob} {K:KF} {r:R} {Q:Exit→Act→World→Prop},
 okCode G c N cd=true→Inv who μ w N fr a.tmps ob→codeA G env noLv c n0 n cd fr ob K=some r→AfterK who μ w N n0 a.defers K r Q→cd.wp G.P Q a w
 | .skip,who,μ,w,a,fr,ob,K,r,Q,ho,hI,h,hk=>wp_skip (hk .nrm fr ob h who μ w a hI (Pres.refl hI.fresh) (fun _ _=>rfl) rfl)
 | .region id ops draw,who,μ,w,a,fr,ob,K,r,Q,ho,hI,h,hk=>region_ok hE hV hM ho hI h fun fr' ob' he=>hk .nrm fr' ob' he
 | .seq x y,who,μ,w,a,fr,ob,K,r,Q,ho,hI,h,hk=>by
  simp only[okCode,Bool.and_eq_true]at ho;simp only[codeA]at h;refine wp_seq (code_ok hE hV hM n x ho.1 hI h fun ex fr' ob' he=>?_);cases ex with
  |nrm=>
   intro who' μ' w' a' hI' hP' hm' hd';(show y.wp G.P Q a' w');simp only at he;split at he
   ·rename_i L hL;have he2:codeA G env noLv c n0 n y (canF L.1 fr') (canO n0 L.1 fr' 0 ob') (endK n0 L.2 K)=some r:=he;(refine code_ok hE hV hM n y ho.2 (hI'.can n0 L.1) he2 fun ex fr2 ob2 h2=>?_);rw[hd'];unfold endK at h2;cases ex with
    |nrm=>exact fun who2 μ2 w2 a2 g1 g2 g3 g4=>(hk .nrm _ _ h2).step hP' hm' who2 μ2 w2 a2 (g1.can n0 L.2) g2 g3 g4
    |ext i=>exact(hk (.ext i) fr2 ob2 h2).step hP' hm'
    |ret=>exact(hk .ret fr2 ob2 h2).step hP' hm'
   exact code_ok hE hV hM n y ho.2 hI' he (fun ex fr2 ob2 h2=>by rw[hd'];exact(hk ex fr2 ob2 h2).step hP' hm')
  |ext i=>exact hk (.ext i) fr' ob' he
  |ret=>exact hk .ret fr' ob' he
 | .cond x y z,who,μ,w,a,fr,ob,K,r,Q,ho,hI,h,hk=>by
  simp only[okCode,Bool.and_eq_true]at ho;simp only[codeA]at h;split at h
  ·rename_i t ht;have hv:=(evA_dat hI ht).v_inv;refine wp_cond hv ?_;cases t
   ·exact code_ok hE hV hM n z ho.2 hI h hk
   exact code_ok hE hV hM n y ho.1 hI h hk
  cases h
 | .block id x,who,μ,w,a,fr,ob,K,r,Q,ho,hI,h,hk=>by
  simp only[okCode]at ho;simp only[codeA]at h;refine wp_block (code_ok hE hV hM n x ho hI h fun ex fr' ob' he=>?_);unfold blkK at he;cases ex with
  |nrm=>exact fun who' μ' w' a' hI' hP' hm' hd'=>hk .nrm _ _ he who' μ' w' a' (hI'.can n0 (look [] id c.bl)) hP' hm' hd'
  |ext i=>
   simp only at he;intro who' μ' w' a' hI' hP' hm' hd';(show(if i=id then Q .normal a' w' else Q (.exit i) a' w'));cases hb:Nat.beq i id with
   |true=>
    rw[hb]at he;rw[if_pos (Nat.eq_of_beq_eq_true hb)];exact hk .nrm _ _ he who' μ' w' a' hI' hP' hm' hd'
   |false=>
    rw[hb]at he;rw[if_neg (fun e=>by subst e;simp at hb)];exact hk (.ext i) _ _ he who' μ' w' a' hI' hP' hm' hd'
  |ret=>exact hk .ret _ _ he
 | .loop x,who,μ,w,a,fr,ob,K,r,Q,ho,hI,h,hk=>by
  simp only[okCode]at ho;have h2:loopA (headF (look [] (firstReg x) c.lp) (boxesOf c n0 x)) (headO2 n0 (look [] (firstReg x) c.lp) (boxesOf c n0 x)) (codeA G env noLv c n0 n x) n (headF (look [] (firstReg x) c.lp) (boxesOf c n0 x) fr) (headO2 n0 (look [] (firstReg x) c.lp) (boxesOf c n0 x) fr ob) K=some r:=h;exact wp_loop_rounds n (loop_ok (fun hI=>hI.head2 n0 _ _) (fun hI h hk=>code_ok hE hV hM n x ho hI h hk) n (hI.head2 n0 _ _) h2 hk)
 | .exit id,who,μ,w,a,fr,ob,K,r,Q,ho,hI,h,hk=>wp_exit (hk (.ext id) _ _ h who μ w a (hI.can n0 _) (Pres.refl hI.fresh) (fun _ _=>rfl) rfl)
 | .ret,who,μ,w,a,fr,ob,K,r,Q,ho,hI,h,hk=>wp_ret (hk .ret _ _ h who μ w a (hI.can n0 _) (Pres.refl hI.fresh) (fun _ _=>rfl) rfl)
 | .label l,who,μ,w,a,fr,ob,K,r,Q,ho,hI,h,hk=>wp_label (hk .nrm fr ob h who μ w a hI (Pres.refl hI.fresh) (fun _ _=>rfl) rfl)
 | .scope x,who,μ,w,a,fr,ob,K,r,Q,ho,hI,h,hk=>by
  simp only[okCode]at ho;simp only[codeA]at h;exact wp_scope_straight (code_ok hE hV hM n x ho hI h fun ex fr' ob' he=>by cases ex<;>exact hk _ fr' ob' he)
 | .rangeFunc _ _ _ _,who,μ,w,a,fr,ob,K,r,Q,ho,hI,h,hk=>by simp[codeA]at h
 | .goto _,who,μ,w,a,fr,ob,K,r,Q,ho,hI,h,hk=>by simp[codeA]at h
 | .refuse _,who,μ,w,a,fr,ob,K,r,Q,ho,hI,h,hk=>by simp[codeA]at h
/-! The road is the same whatever follows. -/
theorem regC_nat (hV:EnvOK G.P env) {ops:List Oper} {draw:Bool}: ∀ (rest:List Oper) (bs:List Nat) (i:Nat) (acc:List (Nat × List Nat × List Nat)) (fr:Fr) (ob:Ob) {K:Fr→Ob→Option R} {r:R},
 regC G env c n0 ops draw rest bs i acc fr ob K=some r→ ∃ fr' ob',∀ K',regC G env c n0 ops draw rest bs i acc fr ob K'=K' fr' ob'
 | [],bs,i,acc,fr,ob,K,r,h=>⟨fr,ob,fun _=>rfl⟩
 |o::rest,bs,i,acc,fr,ob,K,r,h=>by
  simp only[regC]at h ⊢;obtain⟨q,_,h,hq⟩:=stepC_ok hV h;obtain⟨h1,h2⟩:=bif_some h;obtain⟨fr2,ob2,h3⟩:=regC_nat hV rest _ _ _ _ _ h2;exact⟨fr2,ob2,fun K'=>by rw[hq,h1,cond_true,h3]⟩
/-- Two readings that go on alike. -/
def Alike (a b : KF → Option R) : Prop := ∃ ex fr ob, (∀ K, a K = K ex fr ob) ∧ ∀ K, b K = K ex fr ob
theorem loopA_lv {hd:Fr→Fr} {ho:Fr→Ob→Ob} {b1 b2:Fr→Ob→KF→Option R} (hbody: ∀ {fr ob} {K:KF} {r:R},b1 fr ob K=some r→Alike (b1 fr ob) (b2 fr ob)):
 ∀ (n:Nat) {fr:Fr} {ob:Ob} {K:KF} {r:R},loopA hd ho b1 n fr ob K=some r→Alike (loopA hd ho b1 n fr ob) (loopA hd ho b2 n fr ob)
 |0,fr,ob,K,r,h=>by simp[loopA]at h
 |n+1,fr,ob,K,r,h=>by
  simp only[loopA]at h;obtain⟨ex,fr',ob',h1,g1⟩:=hbody h;rw[h1]at h;cases ex with
  |nrm=>
   obtain⟨ex2,fr2,ob2,h2,g2⟩:=loopA_lv (hd:=hd) (ho:=ho) (b1:=b1) (b2:=b2) hbody n (K:=K) (r:=r) (fr:=hd fr') (ob:=ho fr' ob') h;exact⟨ex2,fr2,ob2,fun K'=>by simp only[loopA];rw[h1];exact h2 K',fun K'=>by simp only[loopA];rw[g1];exact g2 K'⟩
  |ext i=>exact⟨.ext i,fr',ob',fun K'=>by simp only[loopA];rw[h1],fun K'=>by simp only[loopA];rw[g1]⟩
  |ret=>exact⟨.ret,fr',ob',fun K'=>by simp only[loopA];rw[h1],fun K'=>by simp only[loopA];rw[g1]⟩
/-- What is said of a loop is so. -/
def LvOf (G : Cfg) (env : Env) (c : FC) (n0 n : Nat) (x : Code) (s : Nat → Fr → Ob → KF → Option R) : Prop :=
  ∀ fr ob K r, s n (headF (look [] (firstReg x) c.lp) (boxesOf c n0 x) fr) (headO2 n0 (look [] (firstReg x) c.lp) (boxesOf c n0 x) fr ob) K = some r →
    Alike (s n (headF (look [] (firstReg x) c.lp) (boxesOf c n0 x) fr) (headO2 n0 (look [] (firstReg x) c.lp) (boxesOf c n0 x) fr ob)) (loopA (headF (look [] (firstReg x) c.lp) (boxesOf c n0 x)) (headO2 n0 (look [] (firstReg x) c.lp) (boxesOf c n0 x)) (codeA G env noLv c n0 n x) n (headF (look [] (firstReg x) c.lp) (boxesOf c n0 x) fr) (headO2 n0 (look [] (firstReg x) c.lp) (boxesOf c n0 x) fr ob))
/-- The loops that are known do what is said. -/
def JnOf (G : Cfg) (env : Env) (c : FC) (n0 n : Nat) (x : Code) (L : List Nat × List Nat) (s : Nat → Fr → Ob → KF → Option R) : Prop :=
  ∀ fr ob K r, s n (canF L.1 fr) (canO n0 L.1 fr 0 ob) K = some r → Alike (s n (canF L.1 fr) (canO n0 L.1 fr 0 ob)) fun K => codeA G env noLv c n0 n x (canF L.1 fr) (canO n0 L.1 fr 0 ob) (endK n0 L.2 K)
def LvC (G : Cfg) (env : Env) (lv : LEnv) (c : FC) (n0 n : Nat) : Code → Prop
  | .seq a b => LvC G env lv c n0 n a ∧ (∀ L s, look? (firstReg b) c.jn = some L → lv (jkey b) = some s → JnOf G env c n0 n b L s) ∧ ((look? (firstReg b) c.jn = none ∨ lv (jkey b) = none) → LvC G env lv c n0 n b)
  | .cond _ a b => LvC G env lv c n0 n a ∧ LvC G env lv c n0 n b
  | .block _ a => LvC G env lv c n0 n a
  | .scope a => LvC G env lv c n0 n a
  | .loop a => (∀ s, lv (firstReg a) = some s → LvOf G env c n0 n a s) ∧ (lv (firstReg a) = none → LvC G env lv c n0 n a)
  | _ => True
theorem codeA_lv {lv:LEnv} (hV:EnvOK G.P env) (n:Nat): ∀ (cd:Code) {fr:Fr} {ob:Ob} {K:KF} {r:R},LvC G env lv c n0 n cd→codeA G env lv c n0 n cd fr ob K=some r→Alike (codeA G env lv c n0 n cd fr ob) (codeA G env noLv c n0 n cd fr ob)
 | .skip,fr,ob,K,r,hl,h=>⟨.nrm,fr,ob,fun _=>rfl,fun _=>rfl⟩
 | .region id ops draw,fr,ob,K,r,hl,h=>by
  obtain⟨fr',ob',h1⟩:=regC_nat hV _ _ _ _ _ _ h;exact⟨.nrm,fr',ob',fun K'=>h1 _,fun K'=>h1 _⟩
 | .seq x y,fr,ob,K,r,hl,h=>by
  simp only[codeA]at h;obtain⟨ex,fr',ob',h1,g1⟩:=codeA_lv hV n x hl.1 h;rw[h1]at h;cases ex with
  |nrm=>
   simp only at h;cases hj:look? (firstReg y) c.jn with
   |none=>
    rw[hj]at h;obtain⟨ex2,fr2,ob2,h2,g2⟩:=codeA_lv hV n y (hl.2.2 (.inl hj)) h;exact⟨ex2,fr2,ob2,fun K'=>by simp only[codeA];rw[h1];simp only[hj];exact h2 K',fun K'=>by simp only[codeA];rw[g1];simp only[hj];exact g2 K'⟩
   |some L=>
    rw[hj]at h;simp only at h;(have no: ∀ K',codeA G env noLv c n0 n (.seq x y) fr ob K'=codeA G env noLv c n0 n y (canF L.1 fr') (canO n0 L.1 fr' 0 ob') (endK n0 L.2 K'):=fun K'=>by simp only[codeA];rw[g1];simp only[hj]);cases hs:lv (jkey y)with
    |some s=>
     rw[hs]at h;obtain⟨ex2,fr2,ob2,h2,g2⟩:=hl.2.1 L s hj hs _ _ _ _ h;exact⟨ex2,fr2,ob2,fun K'=>by simp only[codeA];rw[h1];simp only[hj,hs];exact h2 K',fun K'=>(no K').trans (g2 K')⟩
    |none=>
     rw[hs]at h;obtain⟨ex2,fr2,ob2,h2,g2⟩:=codeA_lv hV n y (hl.2.2 (.inr hs)) h;have e: ∀ K',endK n0 L.2 K' ex2 fr2 ob2=(match ex2 with| .nrm=>K' .nrm (canF L.2 fr2) (canO n0 L.2 fr2 0 ob2)|e=>K' e fr2 ob2):=fun K'=>by cases ex2<;>rfl
     cases ex2 with
     |nrm=>exact⟨.nrm,_,_,fun K'=>by simp only[codeA];rw[h1];simp only[hj,hs];rw[h2];rfl,fun K'=>by rw[no,g2];rfl⟩
     |ext i=>exact⟨.ext i,_,_,fun K'=>by simp only[codeA];rw[h1];simp only[hj,hs];rw[h2];rfl,fun K'=>by rw[no,g2];rfl⟩
     |ret=>exact⟨.ret,_,_,fun K'=>by simp only[codeA];rw[h1];simp only[hj,hs];rw[h2];rfl,fun K'=>by rw[no,g2];rfl⟩
  |ext i=>exact⟨.ext i,fr',ob',fun K'=>by simp only[codeA];rw[h1],fun K'=>by simp only[codeA];rw[g1]⟩
  |ret=>exact⟨.ret,fr',ob',fun K'=>by simp only[codeA];rw[h1],fun K'=>by simp only[codeA];rw[g1]⟩
 | .cond x y z,fr,ob,K,r,hl,h=>by
  simp only[codeA]at h;unfold Alike;simp only[codeA];split at h
  ·rename_i t ht;cases t
   ·exact codeA_lv hV n z hl.2 h
   exact codeA_lv hV n y hl.1 h
  cases h
 | .block id x,fr,ob,K,r,hl,h=>by
  simp only[codeA]at h;obtain⟨ex,fr',ob',h1,g1⟩:=codeA_lv hV n x (by unfold LvC at hl;exact hl) h;unfold Alike;simp only[codeA];cases ex with
  |nrm=>exact⟨.nrm,_,_,fun K'=>by rw[h1];rfl,fun K'=>by rw[g1];rfl⟩
  |ext i=>
   cases hb:Nat.beq i id with
   |true=>exact⟨.nrm,fr',ob',fun K'=>by rw[h1];simp only[blkK,hb,cond_true],fun K'=>by rw[g1];simp only[blkK,hb,cond_true]⟩
   |false=>exact⟨.ext i,fr',ob',fun K'=>by rw[h1];simp only[blkK,hb,cond_false],fun K'=>by rw[g1];simp only[blkK,hb,cond_false]⟩
  |ret=>exact⟨.ret,fr',ob',fun K'=>by rw[h1];rfl,fun K'=>by rw[g1];rfl⟩
 | .loop x,fr,ob,K,r,hl,h=>by
  unfold LvC at hl;(have e: ∀ K,codeA G env noLv c n0 n (.loop x) fr ob K=loopA (headF (look [] (firstReg x) c.lp) (boxesOf c n0 x)) (headO2 n0 (look [] (firstReg x) c.lp) (boxesOf c n0 x)) (codeA G env noLv c n0 n x) n (headF (look [] (firstReg x) c.lp) (boxesOf c n0 x) fr) (headO2 n0 (look [] (firstReg x) c.lp) (boxesOf c n0 x) fr ob) K:=fun K=>rfl);cases hs:lv (firstReg x)with
  |some s=>
   (have e1: ∀ K,codeA G env lv c n0 n (.loop x) fr ob K=s n (headF (look [] (firstReg x) c.lp) (boxesOf c n0 x) fr) (headO2 n0 (look [] (firstReg x) c.lp) (boxesOf c n0 x) fr ob) K:=fun K=>by rw[codeA,hs]);rw[e1]at h;obtain⟨ex,fr',ob',h1,g1⟩:=hl.1 s hs _ _ _ _ h;exact⟨ex,fr',ob',fun K=>(e1 K).trans (h1 K),fun K=>(e K).trans (g1 K)⟩
  |none=>
   (have e1: ∀ K,codeA G env lv c n0 n (.loop x) fr ob K=loopA (headF (look [] (firstReg x) c.lp) (boxesOf c n0 x)) (headO2 n0 (look [] (firstReg x) c.lp) (boxesOf c n0 x)) (codeA G env lv c n0 n x) n (headF (look [] (firstReg x) c.lp) (boxesOf c n0 x) fr) (headO2 n0 (look [] (firstReg x) c.lp) (boxesOf c n0 x) fr ob) K:=fun K=>by rw[codeA,hs]);rw[e1]at h;obtain⟨ex,fr',ob',h1,g1⟩:=loopA_lv (fun h=>codeA_lv hV n x (hl.2 hs) h) n h;exact⟨ex,fr',ob',fun K=>(e1 K).trans (h1 K),fun K=>(e K).trans (g1 K)⟩
 | .exit id,fr,ob,K,r,hl,h=>⟨.ext id,_,_,fun _=>rfl,fun _=>rfl⟩
 | .ret,fr,ob,K,r,hl,h=>⟨.ret,_,_,fun _=>rfl,fun _=>rfl⟩
 | .label l,fr,ob,K,r,hl,h=>⟨.nrm,fr,ob,fun _=>rfl,fun _=>rfl⟩
 | .scope x,fr,ob,K,r,hl,h=>by
  unfold Alike;simp only[codeA]at h ⊢;exact codeA_lv hV n x (by unfold LvC at hl;exact hl) h
 | .rangeFunc _ _ _ _,fr,ob,K,r,hl,h=>by simp[codeA]at h
 | .goto _,fr,ob,K,r,hl,h=>by simp[codeA]at h
 | .refuse _,fr,ob,K,r,hl,h=>by simp[codeA]at h
/-- A loop, told round by round. -/
theorem LvOf_rounds {lv:LEnv} {s:Nat→Fr→Ob→KF→Option R} {x:Code} {n:Nat} (hV:EnvOK G.P env) (hl:LvC G env lv c n0 n x)
 (hs: ∀ k fr ob K r,s k (headF (look [] (firstReg x) c.lp) (boxesOf c n0 x) fr) (headO2 n0 (look [] (firstReg x) c.lp) (boxesOf c n0 x) fr ob) K=some r→ ∃ m,k=m+1∧ ∀ K,s (m+1) (headF (look [] (firstReg x) c.lp) (boxesOf c n0 x) fr) (headO2 n0 (look [] (firstReg x) c.lp) (boxesOf c n0 x) fr ob) K=
  codeA G env lv c n0 n x (headF (look [] (firstReg x) c.lp) (boxesOf c n0 x) fr) (headO2 n0 (look [] (firstReg x) c.lp) (boxesOf c n0 x) fr ob) fun ex fr ob=>match ex with
   | .nrm=>s m (headF (look [] (firstReg x) c.lp) (boxesOf c n0 x) fr) (headO2 n0 (look [] (firstReg x) c.lp) (boxesOf c n0 x) fr ob) K
   |e=>K e fr ob):LvOf G env c n0 n x s:=by
 have key: ∀ k fr ob K r,s k (headF (look [] (firstReg x) c.lp) (boxesOf c n0 x) fr) (headO2 n0 (look [] (firstReg x) c.lp) (boxesOf c n0 x) fr ob) K=some r→
  Alike (s k (headF (look [] (firstReg x) c.lp) (boxesOf c n0 x) fr) (headO2 n0 (look [] (firstReg x) c.lp) (boxesOf c n0 x) fr ob)) (loopA (headF (look [] (firstReg x) c.lp) (boxesOf c n0 x)) (headO2 n0 (look [] (firstReg x) c.lp) (boxesOf c n0 x)) (codeA G env noLv c n0 n x) k (headF (look [] (firstReg x) c.lp) (boxesOf c n0 x) fr) (headO2 n0 (look [] (firstReg x) c.lp) (boxesOf c n0 x) fr ob)):=by
  intro k;induction k with
  |zero=>intro fr ob K r h;obtain⟨m,e,_⟩:=hs 0 fr ob K r h;cases e
  |succ m ih=>
   intro fr ob K r h
   obtain⟨m',e,he⟩:=hs _ fr ob K r h
   cases e
   rw[he]at h
   obtain⟨ex,fr',ob',h1,g1⟩:=codeA_lv hV n x hl h
   rw[h1]at h
   cases ex with
   |nrm=>
    obtain⟨ex2,fr2,ob2,h2,g2⟩:=ih _ _ _ _ h
    exact⟨ex2,fr2,ob2,fun K'=>by rw[he,h1];exact h2 K',fun K'=>by simp only[loopA];rw[g1];exact g2 K'⟩
   |ext i=>exact⟨.ext i,fr',ob',fun K'=>by rw[he,h1],fun K'=>by simp only[loopA];rw[g1]⟩
   |ret=>exact⟨.ret,fr',ob',fun K'=>by rw[he,h1],fun K'=>by simp only[loopA];rw[g1]⟩
 exact fun fr ob K r h=>key n fr ob K r h
end
section
variable {G:Cfg} {env:Env}
theorem disIf_ar {b:Bool} {who:Who} {μ:Nat→Option Nat} {w:World} {p:Nat→Pl} {x:DV} {v:Value} (h:AR who μ w p (.d x) v):AR who μ w p (.d (disIf b x)) v:=by
 unfold disIf;cases b
 ·exact h
 exact AR.dis h
theorem heads_ok: ∀ (n:Nat) (ob:Ob) (cs:List (List DV)),heads n ob=some cs→cs.length=n∧ ∀ (i:Nat) c,cs[i]? =some c→ob[i]? =some (some c)
 |0,ob,cs,h=>by simp[heads]at h;subst h;exact⟨rfl,fun i c h=>by simp at h⟩
 |n+1,[],cs,h=>by simp[heads]at h
 |n+1,none::r,cs,h=>by simp[heads]at h
 |n+1,some x::r,cs,h=>by
  simp only[heads,Option.map_eq_some_iff]at h;obtain⟨l,hl,rfl⟩:=h;obtain⟨h1,h2⟩:=heads_ok n r l hl;refine⟨by simp[h1],fun i c hc=>?_⟩;cases i with
  |zero=>simp at hc;subst hc;rfl
  |succ i=>simpa using h2 i c (by simpa using hc)
def resT : List ResultVar → List Nat
  | [] => []
  | .tmp t :: r => t :: resT r
  | .cell _ _ :: r => resT r
def resRun (tmps : Array Value) : ResultVar → Sem Value
  | .tmp t => pure (tmps.getD t undef)
  | .cell a t => do loadVar t (← asAddr (tmps.getD a undef))
theorem resT_mem: ∀ (rs:List ResultVar) (i t:Nat),rs[i]? =some (ResultVar.tmp t)→t ∈ resT rs
 | [],i,t,h=>by simp at h
 |y::r,i,t,h=>by
  cases i with
  |zero=>simp at h;subst h;simp[resT]
  |succ i=>have:=resT_mem r i t (by simpa using h);cases y<;>simp[resT,this]
theorem resT_nd: ∀ (rs:List ResultVar) (i j t:Nat),(resT rs).Nodup→rs[i]? =some (ResultVar.tmp t)→rs[j]? =some (ResultVar.tmp t)→i=j
 | [],i,j,t,_,h,_=>by simp at h
 |y::r,i,j,t,hn,h1,h2=>by
  have hr:(resT r).Nodup:=by cases y<;>simp[resT]at hn<;>first|exact hn.2|exact hn
  cases i with
  |zero=>
   cases j with
   |zero=>rfl
   |succ j=>simp at h1;subst h1;simp[resT]at hn;exact absurd (resT_mem r j t (by simpa using h2)) hn.1
  |succ i=>
   cases j with
   |zero=>simp at h2;subst h2;simp[resT]at hn;exact absurd (resT_mem r i t (by simpa using h1)) hn.1
   |succ j=>exact congrArg (·+1) (resT_nd r i j t hr (by simpa using h1) (by simpa using h2))
theorem resL_ok {who:Who} {μ:Nat→Option Nat} {w:World} {N:Nat} {fr:Fr} {tmps:Array Value} {ob:Ob} (hI:Inv who μ w N fr tmps ob): ∀ (rs:List ResultVar) (l:List DV),resL G fr ob rs=some l→
 ∃ us,(rs.mapM (resRun tmps)).run G.P w= .ok us w∧us.length=l.length∧rs.length=l.length∧ ∀ (i:Nat) rv x u,rs[i]? =some rv→l[i]? =some x→us[i]? =some u→
  Dat (Ro who) w x u∧((∃ t,rv= .tmp t∧fr t= .d x∧u=tmps.getD t undef)∨ ∀ p:Nat→Nat→Nat→Prop,OwnA p w x u)
 | [],l,h=>by simp[resL]at h;subst h;exact⟨[],rfl,rfl,rfl,fun i rv x u h=>by simp at h⟩
 |rv::rs,l,h=>by
  simp only[resL]at h;split at h
  ·rename_i x l' hx hl;simp at h;subst h;obtain⟨us,h1,h2,h3,h4⟩:=resL_ok hI rs l' hl;have hone: ∃ u,(resRun tmps rv).run G.P w= .ok u w∧Dat (Ro who) w x u∧((∃ t,rv= .tmp t∧fr t= .d x∧u=tmps.getD t undef)∨ ∀ p:Nat→Nat→Nat→Prop,OwnA p w x u):=by
    cases rv with
    |tmp t=>
     simp only[resA,toD]at hx;have hs:=hI.slots t;cases hf:fr t with
     |d y=>rw[hf]at hx hs;simp at hx;subst hx;exact⟨_,rfl,hs.1,.inl ⟨t,rfl,hf,rfl⟩⟩
     |_=>rw[hf]at hx;cases hx
    |cell a t=>
     simp only[resA]at hx;have hs:=hI.slots a;cases hf:fr a with
     |pt k off=>
      rw[hf]at hx hs;obtain⟨b,hb,hv⟩:=hs;simp only at hx;split at hx
      ·rename_i cs hcs;have hca:=(hI.objs k cs hcs).ca hb;obtain⟨v,g1,g2,g3⟩:=load_ok (P:=G.P) (hca.drop off) hx;rw[Nat.zero_add]at g1;exact⟨v,by simp[resRun,hv,asAddr,g1],g2,.inr fun p=>part_own hx g3 p⟩
      cases hx
     |_=>rw[hf]at hx;cases hx
   obtain⟨u,g1,g2,g3⟩:=hone;refine⟨u::us,by simp only[List.mapM_cons,Sem.run_bind,g1,Result.andThen_ok,h1,Sem.run_pure],by simp[h2],by simp[h3],fun i rv' x' u' a1 a2 a3=>?_⟩;cases i with
   |zero=>simp at a1 a2 a3;subst a1 a2 a3;exact⟨g2,g3⟩
   |succ i=>exact h4 i rv' x' u' (by simpa using a1) (by simpa using a2) (by simpa using a3)
  cases h
/-- What is asked of a function. -/
structure FnOK (G : Cfg) (f : FuncId) (fn : Func) (k : Nat) : Prop where
  get : G.P.funcs[f]? = some fn
  name : (fn.name == "runtime.NumGoroutine") = false
  code : ∃ body, fn.body = some body ∧ okCode G (G.fc f) fn.ntmps body = true
  args : k ≤ fn.ntmps
  res : nodup (resT fn.results.toList) = true

theorem enterF_get: ∀ (args:List AV) (i t:Nat),Fr.ofL (enterF args i) t=if i≤t then(args[t - i]?).getD .un else .un
 | [],i,t=>by simp[enterF,Fr.ofL]
 |x::r,i,t=>by
  simp only[enterF,Fr.ofL];cases h:Nat.beq i t with
  |true=>have:=Nat.eq_of_beq_eq_true h;subst this;simp
  |false=>
   (have hne:i≠t:=fun e=>by subst e;simp at h);rw[cond_false,enterF_get r (i+1) t];by_cases hlt:i≤t
   ·rw[if_pos (by omega),if_pos hlt,show t - i=(t - (i+1))+1 from by omega];simp
   rw[if_neg (by omega),if_neg hlt]
theorem func_ok (hE:EqOK G) (hV:EnvOK G.P env) (hM:G.P.follows .mixedOrders=true) {n:Nat} {f:FuncId} {fn:Func} {args:List AV} {obs:List (List DV)} {K:R→Option R} {r:R} (hf:FnOK G f fn args.length)
 {lv:LEnv} (hl: ∀ body,fn.body=some body→LvC G env lv (G.fc f) obs.length n body)
 (h:funcA G env lv n f fn args obs K=some r): ∃ q:R,(∀ K',funcA G env lv n f fn args obs K'=K' q)∧Enters G.P f∧FunOK G.P f args obs q:=by
 obtain⟨body,hbody,hcode⟩:=hf.code;have hent:Enters G.P f:=⟨fn,hf.get,hf.name,by rw[hbody];rfl⟩;unfold funcA at h ⊢;rw[hbody]at h ⊢;simp only at h ⊢;obtain⟨ex,fr',ob',hnat0,hnat⟩:=codeA_lv hV n body (hl body hbody) h;rw[hnat0]at h;have key: ∀ q,(match ex with| .ext _=>none|_=>finA G (G.disr f) fn obs.length fr' ob')=some q→FunOK G.P f args obs q:=by
  intro q hq who μ w vals hF hlen hargs hpt hob;refine calls_of_wp hf.get hbody ?_;have hI:Inv who μ w fn.ntmps (Fr.ofL (enterF args 0)) (vals.toArray++Array.replicate (fn.ntmps - vals.toArray.size) undef) (obs.map some++List.replicate (G.fc f).bx.length none):=by
   have hobl: ∀ (k:Nat) (cs:List DV),(obs.map some++List.replicate (G.fc f).bx.length none)[k]? =some (some cs) ↔ (obs.map some)[k]? =some (some cs):=fun k cs=>by
    rw[List.getElem?_append];split
    ·rfl
    rename_i hge;rw[List.getElem?_eq_none (l:=obs.map some) (by omega)];rw[List.getElem?_replicate];split<;>simp
   refine⟨hF,by have:=hf.args;simp;omega,fun t=>?_,fun t k off ht=>?_,fun k cs hk=>hob k cs ((hobl k cs).1 hk)⟩
   ·rw[enterF_get,if_pos (Nat.zero_le t),Nat.sub_zero];cases ha:args[t]? with
    |none=>trivial
    |some x=>
     have hlt:t<vals.length:=(by rw[hlen];exact(List.getElem?_eq_some_iff.1 ha).1);have hv:vals[t]? =some vals[t]:=List.getElem?_eq_getElem hlt;have hg:(vals.toArray++Array.replicate (fn.ntmps - vals.toArray.size) undef).getD t undef=vals[t]:=by
      rw[Array.getD_eq_getD_getElem?,Array.getElem?_append_left (by simpa using hlt)];simp[hlt]
     rw[hg];exact hargs t x _ ha hv
   rw[enterF_get,if_pos (Nat.zero_le t),Nat.sub_zero]at ht;cases ha:args[t]? with
   |none=>rw[ha]at ht;cases ht
   |some x=>
    rw[ha]at ht;simp at ht;subst ht;have hk:=hpt t k off ha;exact⟨obs[k],(hobl k _).2 (by rw[List.getElem?_map,List.getElem?_eq_getElem hk];rfl)⟩
  refine code_ok (r:=q) (K:=fun ex fr ob=>match ex with| .ext _=>none|_=>finA G (G.disr f) fn obs.length fr ob) hE hV hM n body hcode hI (by rw[hnat];exact hq) ?_;intro ex2 fr2 ob2 hfin who' μ' w' a' hI' hP' hm' hd';have hfin2:(∀ i,ex2≠ .ext i)∧finA G (G.disr f) fn obs.length fr2 ob2=some q:=by
   cases ex2 with
   |nrm=>exact⟨fun i e=>(by cases e),hfin⟩
   |ext i=>cases hfin
   |ret=>exact⟨fun i e=>(by cases e),hfin⟩
  obtain⟨hne,hfin2⟩:=hfin2;have post: ∃ v,(results fn a'.tmps).run G.P w'= .ok v w'∧(∃ v_1 who'_1,Ending.returned v= .returned v_1∧Fresh who'_1 w'∧Pres who w who'_1 w'∧AR who'_1 μ w' (.slot 0) (.d q.1) v_1∧ORep who'_1 μ w' (q.2.map some)):=by
   unfold finA at hfin2;rw[Option.bind_eq_some_iff]at hfin2;obtain⟨l,hl,hfin2⟩:=hfin2;rw[Option.map_eq_some_iff]at hfin2;obtain⟨cs,hcs,rfl⟩:=hfin2;obtain⟨hc1,hc2⟩:=heads_ok _ _ _ hcs;obtain⟨us,hr1,hr2,hr3,hr4⟩:=resL_ok hI' _ _ hl;have hnd:=(nodup_iff _).1 hf.res;let ri:Nat→Option Nat:=fun t=>(List.range fn.results.toList.length).find? fun i=>match fn.results.toList[i]? with|some (.tmp u)=>Nat.beq u t|_=>false
   have hri: ∀ i t,fn.results.toList[i]? =some (ResultVar.tmp t)→ri t=some i:=fun i t h1=>by
    have hi:=(List.getElem?_eq_some_iff.1 h1).1;cases hfd:ri t with
    |none=>have:=List.find?_eq_none.1 hfd i (List.mem_range.2 hi);simp only[h1,Nat.beq_refl]at this;exact(this trivial).elim
    |some j=>
     have hp:=List.find?_some hfd;cases hj:fn.results.toList[j]? with
     |none=>rw[hj]at hp;simp at hp
     |some y=>
      rw[hj]at hp;cases y with
      |tmp u=>have:=Nat.eq_of_beq_eq_true hp;subst this;rw[resT_nd _ j i u hnd hj h1]
      |_=>simp at hp
   (let one:Bool:=Nat.beq fn.results.toList.length 1);let g:Pl→Pl:=fun p=>match p with
    | .slot t j=>match ri t with|some i=>if one=true then .slot 0 j else if j=0 then .slot 0 i else .junk|none=> .junk
    |p=>p
   have hg: ∀ p,g p= .rest ↔ p= .rest:=by intro p;cases p<;>simp[g];split<;>(try split)<;>(try split)<;>simp
   have hPg:=Pres.relab hI'.fresh hg;have hobj:ORep (relab who' g) μ' w' ob2:=hI'.objs.pres hPg (fun _ _ _=>rfl) (fun _ _ _ _ _ _=>rfl) (fun b o k _ h=>by simp[relab,h,g]) (fun b o k j _ h=>by simp[relab,h,g]);have hrun:(results fn a'.tmps).run G.P w'= .ok (if h:us.toArray.size=1 then us.toArray[0]else .tuple us.toArray) w':=by
    have h1:(fn.results.mapM (resRun a'.tmps)).run G.P w'= .ok us.toArray w':=by
     have:=hr1;rw[← Array.toList_mapM,Sem.run_map]at this;cases hx:(fn.results.mapM (resRun a'.tmps)).run G.P w' with
     |ok ps w2=>rw[hx]at this;simp at this;obtain⟨e1,rfl⟩:=this;rw[← e1]
     |halt x w2=>rw[hx]at this;simp at this
    have h2:(results fn a'.tmps)=(do let vs ← fn.results.mapM (resRun a'.tmps);pure (if h:vs.size=1 then vs[0]else .tuple vs)):=by
     unfold results;congr 1
    rw[h2,Sem.run_bind,h1];rfl
   refine⟨_,hrun,_,relab who' g,rfl,hI'.fresh.relab g,hP'.trans hPg,disIf_ar (czR_ar ?_),fun k c hk=>?_⟩
   ·match l,us,hl,hr1,hr2,hr3,hr4 with
    | [x],[u],_,_,_,hr3,hr4=>
     have hone:one=true:=(by simp only[one,hr3];rfl);simp only[List.size_toArray,List.length_cons,List.length_nil,dite_true];have hrv: ∃ rv,fn.results.toList[0]? =some rv:=⟨fn.results.toList[0]'(by rw[hr3];simp),List.getElem?_eq_getElem _⟩;obtain⟨rv,hrv⟩:=hrv;obtain⟨d1,d2⟩:=hr4 0 rv x u hrv rfl rfl;rcases d2 with ⟨t,rfl,hft,rfl⟩|d2
     ·have hs:=hI'.slots t;rw[hft]at hs;exact AR.lab (f:=g) (μ':=μ) (fun j=>by simp only[g,hri 0 t hrv,if_pos hone]) (fun k off e=>nomatch e) hs
     exact⟨d1.pres hPg,d2 _⟩
    | [],[],_,_,_,_,_=>
     exact⟨.tu rfl (fun i x y h=>by simp at h),fun vs hv j y u h=>by simp at h⟩
    |x::x2::l,u::u2::us,_,_,hr2,hr3,hr4=>
     have hone:one=false:=(by simp only[one,hr3];rfl);have hsz:¬((u::u2::us).toArray.size=1):=(by simp);rw[dif_neg hsz];refine⟨.tu (by simpa using hr2) fun i y z hy hz=>?_,fun vs hvs j y z hy hz=>?_⟩
     ·have hz':(u::u2::us)[i]? =some z:=(by simpa using hz);have hlt:i<fn.results.toList.length:=(by rw[hr3];exact(List.getElem?_eq_some_iff.1 hy).1);exact((hr4 i _ y z (List.getElem?_eq_getElem hlt) hy hz').1).pres hPg
     cases hvs
     have hz':(u::u2::us)[j]? =some z:=(by simpa using hz);have hlt:j<fn.results.toList.length:=(by rw[hr3];exact(List.getElem?_eq_some_iff.1 hy).1);have hrv:fn.results.toList[j]? =some fn.results.toList[j]:=List.getElem?_eq_getElem hlt;obtain⟨d1,d2⟩:=hr4 j _ y z hrv hy hz';cases y with
     |sl y1 y2 y3=>
      rcases d2 with ⟨t,ht,hft,rfl⟩|d2
      ·have hs:=hI'.slots t;rw[hft]at hs;exact(show OwnS (fun b o=>who' b o=some (.slot t 0)) w' (.sl y1 y2 y3) _ from hs.2).pres hPg (fun b o _ h=>by
        simp[relab,h,g,hri j t (by rw[hrv,ht]),hone])
      exact d2 (fun _ b o=>relab who' g b o=some (.slot 0 j))
     |_=>simp[OwnS]
   rw[List.getElem?_map]at hk;cases hck:cs[k]? with
   |none=>rw[hck]at hk;simp at hk
   |some c'=>
    rw[hck]at hk;simp at hk;subst hk;have hkl:k<obs.length:=(by rw[← hc1];exact(List.getElem?_eq_some_iff.1 hck).1);obtain⟨b,arr,ty,g1,g2⟩:=hobj k c' (hc2 k c' hck);exact⟨b,arr,ty,(hm' k hkl).symm.trans g1,g2⟩
  cases ex2 with
  |nrm=>exact⟨hd',post⟩
  |ext i=>exact absurd rfl (hne i)
  |ret=>exact⟨hd',post⟩
 cases ex with
 |ext i=>cases h
 |nrm=>
  simp only at h;rw[Option.bind_eq_some_iff]at h;obtain⟨q,hq,hK⟩:=h;exact⟨q,fun K'=>by rw[hnat0];simp only[hq];rfl,hent,key q hq⟩
 |ret=>
  simp only at h;rw[Option.bind_eq_some_iff]at h;obtain⟨q,hq,hK⟩:=h;exact⟨q,fun K'=>by rw[hnat0];simp only[hq];rfl,hent,key q hq⟩
end
end Go.Proofs.YtcfoebkbahpnaaaGreat.Ab
