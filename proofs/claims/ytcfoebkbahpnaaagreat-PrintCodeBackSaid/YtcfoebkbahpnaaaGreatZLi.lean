/- The texts of formulas and codes: their lengths, and how they are put together (pure). -/
import Derived.Test.YtcfoebkbahpnaaaGreatZHn
import Derived.Test.YtcfoebkbahpnaaaGreatZHc
set_option linter.unusedVariables false
set_option linter.unusedSimpArgs false
namespace Go.Proofs.YtcfoebkbahpnaaaGreat.Ab
open Go Go.Proofs.YtcfoebkbahpnaaaGreat

def wordsP (xs : List ByteArray) : List UInt8 := Lib.join ((xs.filter fun s => !(s.data.toList == [])).map (·.data.toList)) [32]
theorem okName_all (l:List UInt8):okName l=(decide (1≤l.length) && decide (l.length≤32) && l.all nameB && (match l with|c::_=>isLet c| []=>false)):=by
 cases l with
 |nil=>rfl
 |cons c r=>
  unfold okName;rw[Bool.eq_iff_iff];simp only[Bool.and_eq_true,decide_eq_true_eq,List.length_cons,List.all_cons];constructor
  ·rintro⟨⟨h1,h2⟩,h3⟩;exact⟨⟨⟨by omega,by omega⟩,by simp[nameB,h1],h2⟩,h1⟩
  rintro⟨⟨⟨h1,h2⟩,h3,h4⟩,h5⟩;exact⟨⟨h5,h4⟩,by omega⟩
theorem okTm_iri (s:ByteArray):okTm (tmOf 1 s ⟨#[]⟩ ⟨#[]⟩)=okIri s.data.toList:=by
 unfold okTm tmOf;simp
theorem okIri_len {l:List UInt8} (h:okIri l=true):l.length≤4096∧l≠ []:=by
 unfold okIri at h;simp only[Bool.and_eq_true,decide_eq_true_eq,Bool.not_eq_true']at h;exact⟨h.1.2,by intro e;rw[e]at h;simp at h⟩
theorem okName_len {l:List UInt8} (h:okName l=true):l.length≤32∧l≠ []:=by
 rw[okName_all]at h;simp only[Bool.and_eq_true,decide_eq_true_eq]at h;exact⟨h.1.1.2,by intro e;rw[e]at h;simp at h⟩
theorem okLang_len {l:List UInt8} (h:okLang l=true):l.length≤8:=by
 unfold okLang at h;simp only[Bool.and_eq_true,decide_eq_true_eq]at h;exact h.1.2
theorem okText_len {l:List UInt8} (h:okText l=true):l.length≤4096:=by
 unfold okText at h;simp only[Bool.and_eq_true,decide_eq_true_eq]at h;exact h.1
theorem okTm_two {t:Tm} (h:okTm t=true) (hk:t.k=2):okText t.x=true∧(t.ty= []∨(okIri t.ty=true∧t.la= []))∧(t.la= []∨okLang t.la=true):=by
 unfold okTm at h;rw[if_pos hk]at h;simp only[Bool.and_eq_true,Bool.or_eq_true]at h;obtain⟨⟨h1,h2⟩,h3⟩:=h;refine⟨h1,?_,?_⟩
 ·rcases h2 with h2|h2
  ·exact .inl (isEmpty_nil h2)
  refine .inr ⟨h2,?_⟩;rcases h3 with h3|⟨h3,_⟩
  ·exact isEmpty_nil h3
  exact absurd (isEmpty_nil h3) (okIri_len h2).2
 rcases h3 with h3|⟨_,h3⟩
 ·exact .inl (isEmpty_nil h3)
 exact .inr h3
theorem okTm_other {t:Tm} (h:okTm t=true) (hk:t.k≠2):t.ty= []∧t.la= []∧t.x.length≤4096∧(t.k=0→t.x= [])∧(t.k=1→okIri t.x=true)∧(t.k=3∨t.k=4→okName t.x=true)∧(t.k=0∨t.k=1∨t.k=3∨t.k=4):=by
 unfold okTm at h;rw[if_neg hk]at h;simp only[Bool.and_eq_true]at h;obtain⟨⟨h1,h2⟩,h3⟩:=h;by_cases k0:t.k=0
 ·rw[if_pos k0]at h3;have:=isEmpty_nil h3;exact⟨isEmpty_nil h1,isEmpty_nil h2,by rw[this];simp,fun _=>this,fun h=>by omega,fun h=>by omega,.inl k0⟩
 rw[if_neg k0]at h3;by_cases k1:t.k=1
 ·rw[if_pos k1]at h3;exact⟨isEmpty_nil h1,isEmpty_nil h2,(okIri_len h3).1,fun h=>by omega,fun _=>h3,fun h=>by omega,.inr (.inl k1)⟩
 rw[if_neg k1]at h3;by_cases k34:t.k=3∨t.k=4
 ·rw[if_pos k34]at h3;exact⟨isEmpty_nil h1,isEmpty_nil h2,by have:=(okName_len h3).1;omega,fun h=>by omega,fun h=>by omega,fun _=>h3,.inr (.inr k34)⟩
 rw[if_neg k34]at h3;cases h3
theorem ttext_len {t:Tm} (h:okTm t=true):(ttext t).length≤20000:=by
 by_cases hk:t.k=2
 ·obtain⟨h1,h2,h3⟩:=okTm_two h hk;have l1:=esc_len t.x;have l2:=okText_len h1;have l3:t.ty.length≤4096:=by rcases h2 with h2|h2;rw[h2];simp;exact(okIri_len h2.1).1
  have l4:t.la.length≤8:=by rcases h3 with h3|h3;rw[h3];simp;exact okLang_len h3
  have e:ttext t=34::(esc t.x++34::tail2 t):=(by unfold ttext;rw[if_neg (by omega),if_neg (by omega),if_neg (by omega),if_pos hk]);rw[e];have l5:(tail2 t).length≤4096+4+9:=by
   unfold tail2;rw[List.length_append];split<;>split<;>simp<;>omega
  simp only[List.length_cons,List.length_append];omega
 have h':=(okTm_other h hk).2.2.1;unfold ttext;split
 ·simp;omega
 split
 ·simp;omega
 split
 ·simp;omega
 simp
theorem ttext_ne {t:Tm} (h:okTm t=true):(ttext t= []) ↔ t.k=0:=by
 by_cases k2:t.k=2
 ·unfold ttext;rw[if_neg (by omega),if_neg (by omega),if_neg (by omega),if_pos k2];exact⟨fun h=>by simp at h,fun h=>by omega⟩
 obtain⟨_,_,_,_,_,_,hk⟩:=okTm_other h k2;unfold ttext;rcases hk with hk|hk|hk|hk<;>simp[hk]
theorem ofT_ne {t:Tm} (h:okTm t=true):ofT t≠ []:=by
 unfold ofT;by_cases k0:t.k=0
 ·rw[if_pos k0];decide
 rw[if_neg k0];exact fun e=>k0 ((ttext_ne h).1 e)
theorem ofT_len {t:Tm} (h:okTm t=true):(ofT t).length≤20000:=by
 unfold ofT;split
 ·decide
 exact ttext_len h
theorem sgnT_len (kd:Int) (h:0≤kd∧kd<27):(sgnT kd).length≤9:=by
 have key: ∀ n:Fin 27,(signL.getD n.val []).length≤9:=(by decide);exact key ⟨kd.toNat,by omega⟩
theorem comA_snoc {l:List (List UInt8)} (h:l≠ []) (y:List UInt8):comA (l++ [y])=comA l++32::44::32::y:=by
 cases l with
 |nil=>exact absurd rfl h
 |cons x r=>simp[comA]
def lsz (l : List (List UInt8)) : Nat := (l.map List.length).sum
theorem lsz_append (a b:List (List UInt8)):lsz (a++b)=lsz a+lsz b:=by simp[lsz]
theorem lsz_take (l:List (List UInt8)) (i:Nat):lsz (l.take i)≤lsz l:=by
 have h:=lsz_append (l.take i) (l.drop i);rw[List.take_append_drop]at h;omega
theorem comA_len: ∀ l:List (List UInt8),(comA l).length≤lsz l+3*l.length
 | []=>by simp[comA]
 |x::r=>by
  have key: ∀ r:List (List UInt8),(r.flatMap fun y=>32::44::32::y).length=lsz r+3*r.length:=by
   intro r;induction r with
   |nil=>rfl
   |cons y r ih=>
    simp only[List.flatMap_cons,List.length_append,List.length_cons,ih,lsz,List.map_cons,List.sum_cons];omega
  simp only[comA,List.length_append,key,lsz,List.map_cons,List.sum_cons,List.length_cons];omega
theorem get2_len (l:List (List UInt8)):(l.getD 0 []).length+(l.getD 1 []).length≤lsz l:=by
 match l with
 | []=>simp
 | [a]=>simp[lsz]
 |a::b::r=>simp[lsz]
theorem part_kind {p:PartS} (h:partOK p=true):0≤fneeds p.f0 p.f3∧1≤p.f0∧p.f0≤26:=by
 have key:0≤fneeds p.f0 p.f3:=by
  unfold partOK at h;by_cases h1:p.f0=1
  ·rw[h1];simp[fneeds]
  rw[if_neg h1]at h;by_cases h2:p.f0=2∨p.f0=3
  ·unfold fneeds;rw[if_pos (by omega)];decide
  rw[if_neg h2]at h;by_cases h3:p.f0=26
  ·rw[if_pos h3]at h;simp only[Bool.and_eq_true,decide_eq_true_eq]at h;rw[h3];exact h.1
  rw[if_neg h3]at h;simp only[Bool.and_eq_true,decide_eq_true_eq]at h;exact h.1
 refine⟨key,?_⟩;unfold fneeds at key;constructor;all_goals
  repeat' split at key
  all_goals omega
theorem part_one {p:PartS} (h:partOK p=true) (h1:p.f0=1):okTm (T p.f1)=true∧p.f1.f0≠0:=by
 unfold partOK at h;rw[if_pos h1]at h;simp only[Bool.and_eq_true,Bool.or_eq_true,beq_iff_eq]at h;exact⟨h.1.1,by rcases h.1.2 with h|h<;>omega⟩
theorem part_name {p:PartS} (h:partOK p=true) (h2:p.f0=2∨p.f0=3):p.f2.size≤32:=by
 unfold partOK at h;rw[if_neg (by omega),if_pos h2]at h;simp only[Bool.and_eq_true]at h;have:=(okName_len h.1).1;rwa[size_toList]at this
theorem part_needs {p:PartS} (h:partOK p=true):(4≤p.f0→p.f0≤5→fneeds p.f0 p.f3=1)∧(6≤p.f0→p.f0≤17→fneeds p.f0 p.f3=2)∧(18≤p.f0→1≤fneeds p.f0 p.f3):=by
 have hk:=part_kind h;unfold fneeds at hk ⊢;refine⟨fun _ _=>?_,fun _ _=>?_,fun _=>?_⟩;all_goals
  repeat' split
  all_goals first|omega|(exfalso;have:=hk.1;simp only at this;split at this<;>omega)|skip
 all_goals
  have h0:=hk.1
  repeat' split at h0
  all_goals omega
theorem partT_ne {p:PartS} (h:partOK p=true) (l:List (List UInt8)):partT p l≠ []:=by
 unfold partT;by_cases h1:p.f0=1
 ·rw[if_pos h1];obtain⟨h2,h3⟩:=part_one h h1;exact fun e=>h3 ((ttext_ne h2).1 e)
 rw[if_neg h1];(repeat' split);all_goals simp
theorem partT_len {p:PartS} (h:partOK p=true) {l:List (List UInt8)} (hl:l.length≤16):(partT p l).length≤lsz l+20100:=by
 have hk:=part_kind h;have hs:=sgnT_len p.f0 (by omega);have hg:=get2_len l;have hc:=comA_len l;unfold partT;by_cases h1:p.f0=1
 ·rw[if_pos h1];have:=ttext_len (part_one h h1).1;omega
 rw[if_neg h1];by_cases h2:p.f0=2
 ·rw[if_pos h2];have:=part_name h (.inl h2);rw[← size_toList]at this;simp only[List.length_cons];omega
 rw[if_neg h2];by_cases h3:p.f0=3
 ·rw[if_pos h3];have:=part_name h (.inr h3);rw[← size_toList]at this;simp only[List.length_cons,List.length_append,List.length_nil];omega
 rw[if_neg h3];(repeat' split);all_goals
  simp only[List.length_cons,List.length_append,List.length_nil]
  omega
theorem wordsP_all {xs:List (List UInt8)} (h: ∀ x ∈ xs,x≠ []):wordsP (xs.map ofL)=Lib.join xs [32]:=by
 unfold wordsP;congr 1;induction xs with
 |nil=>rfl
 |cons x xs ih=>
  have hb:(!((ofL x).data.toList==([]:List UInt8)))=true:=(by rw[ofL_toList,beq_eq_false_iff_ne.mpr (h x (List.mem_cons_self ..))];rfl);simp only[List.map_cons,List.filter,hb];rw[ih (fun y hy=>h y (List.mem_cons_of_mem _ hy)),ofL_toList]
theorem basA_snoc (l:List TriS) (t:TriS):basA (l++ [t])=basA l++triT t:=by simp[basA]
def tri3 (t : TriS) : Prop := okTm (T t.f0) = true ∧ okTm (T t.f1) = true ∧ okTm (T t.f2) = true
theorem triT_len {t:TriS} (h:tri3 t):(triT t).length≤60005:=by
 have:=ofT_len h.1;have:=ofT_len h.2.1;have:=ofT_len h.2.2;simp[triT];omega
theorem basA_len: ∀ {l:List TriS},(∀ t ∈ l,tri3 t)→(basA l).length≤1+60005*l.length
 | [],_=>by simp[basA]
 |t::r,h=>by
  have h1:=triT_len (h t (List.mem_cons_self ..));have h2:=basA_len (l:=r) (fun x hx=>h x (List.mem_cons_of_mem _ hx));simp only[basA,List.flatMap_cons,List.length_cons,List.length_append]at h2 ⊢;omega
theorem take_all {α:Type} {P:α→Prop} {l:List α} (h: ∀ t ∈ l,P t) (i:Nat): ∀ t ∈ l.take i,P t:=fun t ht=>h t (List.mem_of_mem_take ht)
theorem rowA_snoc (l:List TermS) (t:TermS):rowA (l++ [t])=rowA l++32::ofT (T t):=by simp[rowA]
theorem vrsA_snoc (l:List ByteArray) (v:ByteArray):vrsA (l++ [v])=vrsA l++32::63::v.data.toList:=by simp[vrsA]
theorem tabA_snoc (vars:List ByteArray) (l:List (List TermS)) (r:List TermS):tabA vars (l++ [r])=tabA vars l++rowT r:=by simp[tabA]
theorem rowA_len: ∀ {l:List TermS},(∀ t ∈ l,okTm (T t)=true)→(rowA l).length≤20001*l.length
 | [],_=>by simp[rowA]
 |t::r,h=>by
  have h1:=ofT_len (h t (List.mem_cons_self ..));have h2:=rowA_len (l:=r) (fun x hx=>h x (List.mem_cons_of_mem _ hx));simp only[rowA,List.flatMap_cons,List.length_cons,List.length_append]at h2 ⊢;omega
theorem vrsA_len: ∀ {l:List ByteArray},(∀ s ∈ l,s.size≤32)→(vrsA l).length≤10+34*l.length
 | [],_=>by simp[vrsA]
 |v::r,h=>by
  have h1:=h v (List.mem_cons_self ..);have h2:=vrsA_len (l:=r) (fun x hx=>h x (List.mem_cons_of_mem _ hx));rw[← size_toList]at h1;simp only[vrsA,List.flatMap_cons,List.length_cons,List.length_append]at h2 ⊢;omega
theorem rowsA_len (n:Nat) (hn:n≤32): ∀ {l:List (List TermS)},(∀ r ∈ l,r.length=n)→(∀ r ∈ l,∀ t ∈ r,okTm (T t)=true)→(l.flatMap rowT).length≤640036*l.length
 | [],_,_=>by simp
 |r::l,hl,ht=>by
  have h1:=rowA_len (ht r (List.mem_cons_self ..));rw[hl r (List.mem_cons_self ..)]at h1;have h2:=rowsA_len n hn (l:=l) (fun x hx=>hl x (List.mem_cons_of_mem _ hx)) (fun x hx=>ht x (List.mem_cons_of_mem _ hx));simp only[List.flatMap_cons,List.length_cons,List.length_append,rowT,List.length_nil];omega
structure tabOK (vars : List ByteArray) (rows : List (List TermS)) : Prop where
  v : vars.length ≤ 32
  r : rows.length ≤ 64
  n : ∀ s ∈ vars, s.size ≤ 32
  l : ∀ row ∈ rows, row.length = vars.length
  t : ∀ row ∈ rows, ∀ t ∈ row, okTm (T t) = true
theorem tabA_len {vars:List ByteArray} {rows:List (List TermS)} (h:tabOK vars rows) (i:Nat):(tabA vars (rows.take i)).length≤41000000:=by
 have h1:=vrsA_len h.n;have h2:=rowsA_len vars.length h.v (take_all h.l i) (take_all h.t i);rw[List.length_take]at h2;have:=h.v;have:=h.r;simp only[tabA,List.length_append,List.length_cons,List.length_nil];omega
theorem tabA_ne (vars:List ByteArray) (l:List (List TermS)):tabA vars l≠ []:=by simp[tabA]
/-- what a step of the stack keeps -/
theorem form_step {p:PartS} {r:List PartS} {l:List (List UInt8)} (hc:fchk (l.length:Int) (p::r)=0):
 partOK p=true∧ ∃ N:Nat,fneeds p.f0 p.f3=(N:Int)∧N≤l.length∧N≤16∧(l.drop (l.length - N)).length=N∧fchk ((l.take (l.length - N)++ [partT p (l.drop (l.length - N))]).length:Int) r=0∧formP (p::r) l=formP r (l.take (l.length - N)++ [partT p (l.drop (l.length - N))])∧lsz (l.take (l.length - N)++ [partT p (l.drop (l.length - N))])≤lsz l+20100∧lsz (l.drop (l.length - N))≤lsz l:=by
 unfold fchk at hc;cases hp:partOK p with
 |false=>rw[hp]at hc;simp at hc
 |true=>
  rw[hp]at hc;simp only[if_true]at hc;have hk:=part_kind hp;have hle:=(fneeds_le p.f0 p.f3).2;by_cases hn:fneeds p.f0 p.f3>(l.length:Int)
  ·rw[if_pos hn]at hc;cases hc
  rw[if_neg hn]at hc;obtain⟨N,hN⟩: ∃ N:Nat,fneeds p.f0 p.f3=(N:Int):=⟨(fneeds p.f0 p.f3).toNat,by omega⟩;have hd:(l.drop (l.length - N)).length=N:=(by rw[List.length_drop];omega);have hsp:lsz (l.take (l.length - N))+lsz (l.drop (l.length - N))=lsz l:=(by rw[← lsz_append,List.take_append_drop]);have hT:=partT_len hp (l:=l.drop (l.length - N)) (by omega);refine⟨rfl,N,hN,by omega,by omega,hd,?_,?_,?_,by omega⟩
  ·rw[List.length_append,List.length_take,List.length_singleton];rw[hN]at hc;rw[show((min (l.length - N) l.length+1:Nat):Int)=(l.length:Int)+(1 - (N:Int))by omega];exact hc
  ·rw[formP,hN,Int.toNat_natCast]
  rw[lsz_append];simp only[lsz,List.map_cons,List.map_nil,List.sum_cons,List.sum_nil]at hT hsp ⊢;omega
theorem form_one: ∀ (r:List PartS) (l:List (List UInt8)),fchk (l.length:Int) r=0→(formP r l).length=1∧lsz (formP r l)≤lsz l+20100*r.length∧((∀ x ∈ l,x≠ [])→ ∀ x ∈ formP r l,x≠ [])
 | [],l,hc=>by
  unfold fchk at hc;simp only[formP];refine⟨?_,by simp,fun h=>h⟩;by_cases h:(l.length:Int)=1
  ·omega
  rw[if_neg h]at hc;cases hc
 |p::r,l,hc=>by
  obtain⟨hp,N,hN,hle,h16,hd,hc2,he,hz,hz2⟩:=form_step hc;obtain⟨h1,h2,h3⟩:=form_one r _ hc2;rw[he];refine⟨h1,by simp only[List.length_cons];omega,fun h=>h3 (fun x hx=>?_)⟩;rcases List.mem_append.1 hx with hx|hx
  ·exact h x (List.mem_of_mem_take hx)
  rw[List.mem_singleton]at hx;rw[hx];exact partT_ne hp _
theorem fcheck_ok {x:List PartS} (h:fcheck x=0):x.length≤256∧fchk (([]:List (List UInt8)).length:Int) x=0:=by
 unfold fcheck at h;by_cases hl:x.length>256
 ·rw[if_pos hl]at h;cases h
 rw[if_neg hl]at h;exact⟨by omega,h⟩
theorem formT_is {x:List PartS} (h:fcheck x=0):formP x []= [formT x]∧formT x≠ []∧(formT x).length≤5145600:=by
 obtain⟨hl,hc⟩:=fcheck_ok h;obtain⟨h1,h2,h3⟩:=form_one x [] hc;unfold formT;match hq:formP x []with
 | []=>rw[hq]at h1;cases h1
 | [a]=>
  rw[hq]at h2 h3;refine⟨rfl,h3 (fun x hx=>by cases hx) a (List.mem_cons_self ..),?_⟩;simp[lsz]at h2;(show a.length≤_);omega
 |a::b::r=>rw[hq]at h1;simp at h1
/-- what a right operation's text hangs on -/
structure OpF (o : OpS) : Prop where
  k : 1 ≤ o.f0 ∧ o.f0 ≤ 9
  a : o.f0 = 1 → o.f1.length ≤ 32 ∧ ∀ t ∈ o.f1, tri3 t
  b : o.f0 = 2 → tabOK o.f2.f0 o.f2.f1
  e : o.f0 = 5 → o.f3 = [] ∨ (o.f3 ≠ [] ∧ fcheck o.f3 = 0)
  f : o.f0 = 7 ∨ o.f0 = 8 → fcheck o.f3 = 0
  n : o.f0 = 8 ∨ o.f0 = 9 → o.f4.size ≤ 4096
theorem opF_of {o:OpS} (h:opOK o=true):OpF o:=by
 have h':=h;unfold opOK at h';simp only[Bool.and_eq_true]at h';obtain⟨_,_,hf,hl⟩:=h';have hk:1≤o.f0∧o.f0≤9:=by
  have hn:=opOK_needs h;unfold opNeeds at hn;by_cases c1:o.f0=1∨o.f0=2
  ·omega
  rw[if_neg c1]at hn;by_cases c2:7≤o.f0∧o.f0≤9
  ·omega
  rw[if_neg c2]at hn;by_cases c3:3≤o.f0∧o.f0≤6
  ·omega
  rw[if_neg c3]at hn;omega
 have key: ∀ l p,nmOK p l=true→ ∀ s ∈ l,okName s=true:=by
  intro l;induction l with
  |nil=>intro p _ s hs;cases hs
  |cons v r ih=>
   intro p hp s hs;simp only[nmOK,Bool.and_eq_true]at hp;rcases List.mem_cons.1 hs with rfl|hs
   ·exact hp.1.1
   exact ih _ hp.2 s hs
 refine⟨hk,fun h1=>⟨(opOK_basic h h1).1,fun t ht=>?_⟩,fun h2=>?_,fun h5=>?_,fun h78=>?_,fun h89=>?_⟩
 ·have:=(opOK_basic h h1).2 t ht;unfold patOK triOK at this;simp only[Bool.and_eq_true]at this;exact⟨this.1.1.1.1.1,this.1.1.1.1.2.1,this.1.1.1.1.2.2⟩
 ·obtain⟨hv,hr,hln⟩:=opOK_table h h2;unfold lastOK at hl;rw[if_neg (by omega),if_pos h2]at hl;unfold tabV at hl;simp only[Bool.and_eq_true,List.all_eq_true]at hl;refine⟨hv,hr,fun s hs=>?_,hln,fun row hrow t ht=>?_⟩
  ·have:=(okName_len (key _ _ hl.2.2.1 s.data.toList (List.mem_map_of_mem hs))).1;rwa[size_toList]at this
  have:=hl.2.2.2 row hrow;unfold rowV cellV at this;simp only[Bool.and_eq_true,List.all_eq_true]at this;exact(this.2 t ht).1.1
 ·unfold formOK formF at hf;by_cases he:o.f3= []
  ·exact .inl he
  refine .inr ⟨he,?_⟩;have hp:0<o.f3.length:=List.length_pos_iff.2 he;rw[show(o.f0==5 && decide (0<o.f3.length))=true by rw[beq_iff_eq.mpr h5,decide_eq_true hp];rfl,Bool.or_true]at hf;simpa using hf
 ·unfold formOK formF at hf;rw[show(o.f0==7||o.f0==8)=true by rcases h78 with h_|h_<;>simp[h_],Bool.true_or]at hf;simpa using hf
 unfold lastOK at hl;rw[if_neg (by omega),if_neg (by omega)]at hl;by_cases h8:o.f0=8
 ·rw[if_pos h8]at hl;have:=(okName_len hl).1;rw[size_toList]at this;omega
 rw[if_neg h8,if_pos (by omega),okTm_iri]at hl;have:=(okIri_len hl).1;rwa[size_toList]at this
theorem opT_ne {o:OpS} (l:List (List UInt8)):opT o l≠ []:=by
 unfold opT;(repeat' split);all_goals simp[basT,basA,tabT,tabA,vrsA]
theorem opT_len {o:OpS} (h:OpF o) (l:List (List UInt8)):(opT o l).length≤lsz l+50000000:=by
 have hk:=h.k;have hg:=get2_len l;(have hf:fcheck o.f3=0→(formT o.f3).length≤5145600:=fun h=>(formT_is h).2.2);have hs:o.f4.data.toList.length=o.f4.size:=size_toList _;unfold opT;by_cases h1:o.f0=1
 ·rw[if_pos h1];have:=basA_len (h.a h1).2;have:=(h.a h1).1;simp only[basT,List.length_append,List.length_cons,List.length_nil];omega
 rw[if_neg h1];by_cases h2:o.f0=2
 ·rw[if_pos h2];have:=tabA_len (h.b h2) o.f2.f1.length;rw[List.take_length]at this;simp only[tabT,List.length_append,List.length_cons,List.length_nil];omega
 rw[if_neg h2];by_cases h3:o.f0=3
 ·rw[if_pos h3];simp only[List.length_append,List.length_cons,List.length_nil];omega
 rw[if_neg h3];by_cases h4:o.f0=4
 ·rw[if_pos h4];simp only[List.length_append,List.length_cons,List.length_nil];omega
 rw[if_neg h4];by_cases h6:o.f0=6
 ·rw[if_pos h6];simp only[List.length_append,List.length_cons,List.length_nil];omega
 rw[if_neg h6];by_cases h5:o.f0=5
 ·rw[if_pos h5];rcases h.e h5 with he|⟨he,hc⟩
  ·rw[if_pos he];simp only[sOpt,List.length_append,List.length_cons,List.length_nil];omega
  rw[if_neg he];have:=hf hc;simp only[sOpt,sFilter,List.length_append,List.length_cons,List.length_nil];omega
 rw[if_neg h5];by_cases h7:o.f0=7
 ·rw[if_pos h7];have:=hf (h.f (.inl h7));simp only[sFilter,List.length_append,List.length_cons,List.length_nil];omega
 rw[if_neg h7];by_cases h8:o.f0=8
 ·rw[if_pos h8];have:=hf (h.f (.inr h8));have:=h.n (.inl h8);simp only[List.length_append,List.length_cons,List.length_nil];omega
 rw[if_neg h8];have:=h.n (.inr (by omega));split;all_goals
  simp only[List.length_append,List.length_cons,List.length_nil]
  omega
def okRunP : Nat → List OpS → Prop
  | n, [] => n = 1
  | n, o :: r => opOK o = true ∧ opNeeds o.f0 ≤ (n : Int) ∧ okRunP (n - (opNeeds o.f0).toNat + 1) r
theorem okRun_iff: ∀ (c:List OpS) (n:Nat),okRun n c=true ↔ okRunP n c
 | [],n=>by simp[okRun,okRunP]
 |o::r,n=>by simp only[okRun,okRunP,Bool.and_eq_true,decide_eq_true_eq,okRun_iff r]
theorem resP_run: ∀ (r:List OpS) (i:Nat) (out:List Int) (l:List RS) (bad:Int) (outs:List Int),resP i r out l bad=(outs,0)→okRunP l.length r
 | [],i,out,l,bad,outs,h=>by
  unfold resP at h;by_cases c:l.length=1
  ·exact c
  rw[if_neg c]at h;cases h
 |o::r,i,out,l,bad,outs,h=>by
  unfold resP at h;cases hok:opOK o with
  |false=>rw[if_pos hok]at h;cases h
  |true=>
   rw[if_neg (by rw[hok];simp)]at h;have hn:=opOK_needs hok;by_cases c:(l.length:Int)<opNeeds o.f0
   ·rw[if_pos c]at h;cases h
   rw[if_neg c]at h;split at h
   ·cases h
   have:=resP_run r _ _ _ _ _ h;rw[List.length_append,List.length_take,List.length_singleton,Nat.min_eq_left (Nat.sub_le _ _)]at this;exact⟨hok,by omega,this⟩
theorem code_step {o:OpS} {r:List OpS} {l:List (List UInt8)} (hc:okRunP l.length (o::r)):
 opOK o=true∧ ∃ N:Nat,opNeeds o.f0=(N:Int)∧N≤l.length∧N≤2∧(l.drop (l.length - N)).length=N∧okRunP (l.take (l.length - N)++ [opT o (l.drop (l.length - N))]).length r∧codeP (o::r) l=codeP r (l.take (l.length - N)++ [opT o (l.drop (l.length - N))])∧lsz (l.take (l.length - N)++ [opT o (l.drop (l.length - N))])≤lsz l+50000000∧lsz (l.drop (l.length - N))≤lsz l:=by
 obtain⟨hok,hle,hr⟩:=hc;have hn:=opOK_needs hok;have h2:=(opNeeds_le o.f0).2;obtain⟨N,hN⟩: ∃ N:Nat,opNeeds o.f0=(N:Int):=⟨(opNeeds o.f0).toNat,by omega⟩;have hd:(l.drop (l.length - N)).length=N:=(by rw[List.length_drop];omega);have hsp:lsz (l.take (l.length - N))+lsz (l.drop (l.length - N))=lsz l:=(by rw[← lsz_append,List.take_append_drop]);have hT:=opT_len (opF_of hok) (l.drop (l.length - N));refine⟨hok,N,hN,by omega,by omega,hd,?_,?_,?_,by omega⟩
 ·rw[List.length_append,List.length_take,List.length_singleton,Nat.min_eq_left (Nat.sub_le _ _)];rw[hN,Int.toNat_natCast]at hr;exact hr
 ·rw[codeP,hN,Int.toNat_natCast]
 rw[lsz_append];simp only[lsz,List.map_cons,List.map_nil,List.sum_cons,List.sum_nil]at hT hsp ⊢;omega
theorem code_ne {o:OpS} {l:List (List UInt8)} {N:Nat} (h: ∀ x ∈ l,x≠ []): ∀ x ∈ l.take (l.length - N)++ [opT o (l.drop (l.length - N))],x≠ []:=fun x hx=>by
 rcases List.mem_append.1 hx with hx|hx
 ·exact h x (List.mem_of_mem_take hx)
 rw[List.mem_singleton]at hx;rw[hx];exact opT_ne _
theorem code_one: ∀ (r:List OpS) (l:List (List UInt8)),okRunP l.length r→(codeP r l).length=1
 | [],l,hc=>hc
 |o::r,l,hc=>by
  obtain⟨hok,N,hN,hle,h2,hd,hc2,he,hz,hz2⟩:=code_step hc;rw[he];exact code_one r _ hc2
end Go.Proofs.YtcfoebkbahpnaaaGreat.Ab
