/- What the printed function scope.results comes to, and where each operation's parts begin. -/
import Derived.Test.YtcfoebkbahpnaaaDPb
namespace Go.Proofs.Ytcfoebkbahpnaaa.L
open Go.RowKit Go.Lib Go.Proofs.Ytcfoebkbahpnaaa Go.Proofs.YtcfoebkbahpnaaaW.PrintWords Go.Proofs.YtcfoebkbahpnaaaW.PrintLast
set_option linter.unusedVariables false
set_option linter.unusedSimpArgs false

def resNamesP (o : S45) : List RS → List ByteArray
  | [] => leafP o
  | [a] => oneL o.f0 o.f4 a.S
  | [a, b] => twoL o.f0 a.S b.S
  | _ => []
def newRS (i : Nat) (o : S45) (nd : List RS) : RS := ⟨resNamesP o nd, resFrom i nd, o.f0 == 9 || nd.any RS.sv⟩
def resP : Nat → List S45 → List Int → List RS → Int → List Int × Int
  | _, [], out, l, bad => if l.length = 1 then (out, bad) else ([], 2)
  | i, o :: r, out, l, bad =>
    if opOK o = false then ([], 2) else if (l.length : Int) < opNeeds o.f0 then ([], 2) else
    if o.f0 = 9 ∧ (l.drop (l.length - (opNeeds o.f0).toNat)).any RS.sv = true then ([], 2) else
    resP (i + 1) r (out ++ [resFrom i (l.drop (l.length - (opNeeds o.f0).toNat))]) (l.take (l.length - (opNeeds o.f0).toNat) ++ [newRS i o (l.drop (l.length - (opNeeds o.f0).toNat))]) (resBad o bad (l.drop (l.length - (opNeeds o.f0).toNat)))
def sizeS (l : List RS) : Nat := (l.map fun R => R.S.length).sum
theorem sizeS_append (a b:List RS):sizeS (a++b)=sizeS a+sizeS b:=by simp[sizeS]
theorem resNamesP_len {o:S45} (h:opOK o=true) (nd:List RS):(resNamesP o nd).length≤sizeS nd+4096:=by
 match nd with
 | []=>have:=leafP_len h;simp[resNamesP,sizeS];omega
 | [a]=>simp only[resNamesP,oneL,sizeS];split<;>simp<;>omega
 | [a,b]=>simp only[resNamesP,twoL,sizeS];split<;>simp<;>omega
 |_::_::_::_=>simp[resNamesP]
theorem resGo_ev: ∀ (r:List S45) (i:Nat) (out:List Int) (l:List RS) (bad:Int),(∀ o ∈ r,opB o)→i+r.length≤128→sizeS l≤4096*i→
 Ev (fun k=>resGo k i r out l bad) (resP i r out l bad)
 | [],i,out,l,bad,_,_,_=>by
  simp only[resGo,resP];by_cases h:l.length=1
  ·simp only[if_pos h];exact Ev.now _
  simp only[if_neg h];exact Ev.now _
 |o::r,i,out,l,bad,hb,hi,hs=>by
  have hbo:=hb o (List.mem_cons_self ..);simp only[List.length_cons]at hi;simp only[resGo,resP];refine Ev.bind (needs_evO o) ?_;refine Ev.bind (opOK_ev o hbo) ?_;cases hok:opOK o with
  |false=>simp only[if_true];exact Ev.now _
  |true=>
   have hn:=opOK_needs hok;have hn2:=(opNeeds_le o.f0).2;simp only[Bool.true_eq_false,if_false];by_cases hlt:(l.length:Int)<opNeeds o.f0
   ·simp only[if_pos hlt];exact Ev.now _
   simp only[if_neg hlt,if_neg (show ¬ opNeeds o.f0<0 by omega)];generalize hnd:l.drop (l.length - (opNeeds o.f0).toNat)=nd;have hsplit:sizeS (l.take (l.length - (opNeeds o.f0).toNat))+sizeS nd=sizeS l:=(by rw[← sizeS_append,← hnd,List.take_append_drop]);have hlen:nd.length≤2:=(by rw[← hnd,List.length_drop];omega);by_cases h9:o.f0=9∧nd.any RS.sv=true
   ·simp only[if_pos h9];exact Ev.now _
   simp only[if_neg h9];have hrl:=resNamesP_len hok nd;have hnames:Ev (fun k=>resNames k o nd) (resNamesP o nd):=by
    match nd,hsplit,hlen with
    | [],_,_=>exact leaf_ev hok hbo
    | [a],hsplit,_=>
     simp only[resNames,resNamesP];have h2:sizeS [a]=a.S.length:=(by simp[sizeS]);simp only[if_pos (show a.S.length<4294967296∧o.f4.size≤maxLen from⟨by omega,hbo.2.2.1⟩)];exact Ev.now _
    | [a,b],hsplit,_=>
     simp only[resNames,resNamesP];have h2:sizeS [a,b]=a.S.length+b.S.length:=(by simp[sizeS]);simp only[if_pos (show a.S.length+b.S.length<4294967296 by omega)];exact Ev.now _
    |_::_::_::_,_,hlen=>simp at hlen
   refine Ev.bind hnames ?_;exact resGo_ev r (i+1) _ _ _ (fun o' ho'=>hb o' (List.mem_cons_of_mem _ ho')) (by omega) (by
    rw[sizeS_append]
    have:sizeS [newRS i o nd]=(resNamesP o nd).length:=by simp[sizeS,newRS]
    show _+sizeS [newRS i o nd]≤_
    omega)
def resultsP (c : List S45) : List Int × Int := if c.length > 128 then ([], 3) else resP 0 c [] [] 0
theorem results_ev (c:List S45) (hb: ∀ o ∈ c,opB o):Ev (fun k=>scope_results.f k c) (resultsP c):=by
 unfold scope_results.f resultsP;by_cases h:c.length>128
 ·simp only[if_pos h];exact Ev.now _
 simp only[if_neg h];exact resGo_ev c 0 [] [] 0 hb (by omega) (by simp[sizeS])
/-! ### where parts begin -/
def depL : List S45 → Int
  | [] => 0
  | o :: r => (1 - opNeeds o.f0) + depL r
theorem depL_append: ∀ a b,depL (a++b)=depL a+depL b
 | [],b=>by simp[depL]
 |o::r,b=>by simp only[List.cons_append,depL,depL_append r b];omega
/-- how many results lie there behind j operations -/
def dep (c : List S45) (j : Nat) : Int := depL (c.take j)
theorem dep_zero (c:List S45):dep c 0=0:=by simp[dep,depL]
theorem dep_succ {c:List S45} {j:Nat} {o:S45} {r:List S45} (h:c.drop j=o::r):dep c (j+1)=dep c j+(1 - opNeeds o.f0):=by
 unfold dep;rw[(get_of_drop h z45).2.2.2,depL_append];simp[depL]
def isSv (c : List S45) (t : Nat) : Prop := (c.getD t z45).f0 = 9
/-- the results that lie there, in turn: where each one's operations begin, and is a service among them -/
def Cov (c : List S45) : Nat → Nat → List RS → Nat → Prop
  | p, a, [], b => a = b ∧ dep c a = p
  | p, a, R :: l, b => dep c a = p ∧ R.fr = (a : Int) ∧ ∃ m, a < m ∧ m ≤ b ∧ (∀ j, a < j → j ≤ m → (p : Int) + 1 ≤ dep c j) ∧ (R.sv = true ↔ ∃ t, a ≤ t ∧ t < m ∧ isSv c t) ∧ Cov c (p + 1) m l b
theorem Cov_le {c:List S45}: ∀ {l:List RS} {p a b:Nat},Cov c p a l b→a≤b
 | [],_,_,_,h=>Nat.le_of_eq h.1
 |_::_,_,_,_,h=>by
  obtain⟨_,_,m,h1,h2,_⟩:=h;omega
theorem Cov_dep {c:List S45}: ∀ {l:List RS} {p a b:Nat},Cov c p a l b→dep c a=p∧dep c b=(p+l.length:Nat)∧ ∀ j,a<j→j≤b→(p:Int)+1≤dep c j
 | [],p,a,b,h=>by
  obtain⟨rfl,h2⟩:=h;exact⟨h2,by simpa using h2,fun j h3 h4=>by omega⟩
 |R::l,p,a,b,h=>by
  obtain⟨h1,_,m,hm,hmb,hj,_,h2⟩:=h;obtain⟨e1,e2,e3⟩:=Cov_dep h2;refine⟨h1,by rw[e2];simp;omega,fun j h3 h4=>?_⟩;rcases Nat.lt_or_ge m j with h5|h5
  ·have:=e3 j h5 h4;push_cast at this;omega
  exact hj j h3 h5
theorem Cov_split {c:List S45}: ∀ {l1:List RS} {l2:List RS} {p a b:Nat},Cov c p a (l1++l2) b→ ∃ x,Cov c p a l1 x∧Cov c (p+l1.length) x l2 b
 | [],l2,p,a,b,h=>⟨a,⟨rfl,(Cov_dep h).1⟩,by simpa using h⟩
 |R::l1,l2,p,a,b,h=>by
  obtain⟨h1,h0,m,hm,hmb,hj,hsv,h2⟩:=h;obtain⟨x,e1,e2⟩:=Cov_split h2;refine⟨x,⟨h1,h0,m,hm,Cov_le e1,hj,hsv,e1⟩,?_⟩;rw[List.length_cons,show p+(l1.length+1)=p+1+l1.length by omega];exact e2
theorem Cov_join {c:List S45} {R:RS}: ∀ {l1:List RS} {p a x b:Nat},Cov c p a l1 x→R.fr=(x:Int)→x<b→(∀ j,x<j→j≤b→((p+l1.length:Nat):Int)+1≤dep c j)→dep c b=((p+l1.length+1:Nat):Int)→(R.sv=true ↔ ∃ t,x≤t∧t<b∧isSv c t)→Cov c p a (l1++ [R]) b
 | [],p,a,x,b,h,hf,hx,hj,hd,hs=>by
  obtain⟨rfl,h2⟩:=h;exact⟨h2,hf,b,hx,Nat.le_refl _,fun j h3 h4=>by simpa using hj j h3 h4,hs,rfl,by simpa using hd⟩
 |Q::l1,p,a,x,b,h,hf,hx,hj,hd,hs=>by
  obtain⟨h1,h0,m,hm,hmx,hjm,hsv,h2⟩:=h;refine⟨h1,h0,m,hm,by omega,hjm,hsv,?_⟩;refine Cov_join h2 hf hx (fun j h3 h4=>?_) ?_ hs
  ·have:=hj j h3 h4;rw[List.length_cons]at this;rw[show p+1+l1.length=p+(l1.length+1)by omega];exact this
  rw[hd,List.length_cons,show p+1+l1.length+1=p+(l1.length+1)+1 by omega]
theorem Cov_sv {c:List S45}: ∀ {l:List RS} {p a b:Nat},Cov c p a l b→(l.any RS.sv=true ↔ ∃ t,a≤t∧t<b∧isSv c t)
 | [],_,a,b,h=>by
  obtain⟨rfl,_⟩:=h;simp only[List.any_nil,Bool.false_eq_true,false_iff];rintro⟨t,h1,h2,_⟩;omega
 |R::l,_,a,b,h=>by
  obtain⟨_,_,m,hm,hmb,_,hsv,h2⟩:=h;rw[List.any_cons,Bool.or_eq_true,hsv,Cov_sv h2];constructor
  ·rintro(⟨t,h3,h4,h5⟩|⟨t,h3,h4,h5⟩)
   ·exact⟨t,h3,by omega,h5⟩
   exact⟨t,by omega,h4,h5⟩
  rintro⟨t,h3,h4,h5⟩;rcases Nat.lt_or_ge t m with h6|h6
  ·exact .inl ⟨t,h3,h6,h5⟩
  exact .inr ⟨t,h6,h4,h5⟩
theorem Cov_from {c:List S45} {l:List RS} {p a b:Nat} (h:Cov c p a l b) (i:Nat) (hi:l= []→(i:Nat)=a):resFrom i l=(a:Int):=by
 cases l with
 |nil=>rw[resFrom,hi rfl]
 |cons R l=>exact h.2.1
/-- F is where the operations begin that operation t makes its result of -/
def FromAt (c : List S45) (t : Nat) (F : Int) : Prop := ∃ f : Nat, F = (f : Int) ∧ f ≤ t ∧ dep c f + 1 = dep c (t + 1) ∧ (∀ j, f < j → j ≤ t → dep c f + 1 ≤ dep c j) ∧ (isSv c t → ∀ s, f ≤ s → s < t → ¬ isSv c s)
theorem getD_append_new (out:List Int) (x:Int):(out++ [x]).getD out.length 0=x:=by simp[List.getD_eq_getElem?_getD]
theorem getD_append_old {out:List Int} {x:Int} {t:Nat} (h:t<out.length):(out++ [x]).getD t 0=out.getD t 0:=by
 rw[List.getD_eq_getElem?_getD,List.getD_eq_getElem?_getD,List.getElem?_append_left h]
theorem resP_inv {c:List S45}: ∀ (r:List S45) (i:Nat) (out:List Int) (l:List RS) (bad:Int) (outs:List Int),c.drop i=r→Cov c 0 0 l i→out.length=i→(∀ t,t<i→FromAt c t (out.getD t 0))→(∀ t,t<i→opOK (c.getD t z45)=true)→resP i r out l bad=(outs,0)→
 outs.length=c.length∧(∀ t,t<c.length→FromAt c t (outs.getD t 0))∧(∀ t,t<c.length→opOK (c.getD t z45)=true)
 | [],i,out,l,bad,outs,hd,hc,ho,hf,hk,h=>by
  have hi:=len_of_drop hd;rw[resP]at h;by_cases h1:l.length=1
  ·rw[if_pos h1]at h;injection h with e _
   subst e;have hle:i≤c.length∨c.length<i:=(by omega);rcases hle with hle|hle
   ·have:i=c.length:=(by omega);subst this;exact⟨ho,hf,hk⟩
   exfalso;have:=hf c.length hle;have hk':=hk c.length hle;rw[List.getD_eq_getElem?_getD,List.getElem?_eq_none (Nat.le_refl _)]at hk';have:=opOK_needs hk';simp[z45,opNeeds]at this
  rw[if_neg h1]at h;injection h with _ e
  cases e
 |o::r,i,out,l,bad,outs,hd,hc,ho,hf,hk,h=>by
  obtain⟨hg,hi,hr,_⟩:=get_of_drop hd z45;rw[Int.toNat_natCast]at hg;rw[resP]at h;cases hok:opOK o with
  |false=>rw[if_pos hok]at h;injection h with _ e;cases e
  |true=>
   rw[if_neg (by rw[hok];decide)]at h;by_cases hlt:(l.length:Int)<opNeeds o.f0
   ·rw[if_pos hlt]at h;injection h with _ e;cases e
   rw[if_neg hlt]at h;have hn:=opOK_needs hok;obtain⟨N,hN⟩: ∃ N:Nat,opNeeds o.f0=(N:Int):=⟨(opNeeds o.f0).toNat,by omega⟩;rw[hN,Int.toNat_natCast]at h;have hNl:N≤l.length:=(by omega);have hl:l=l.take (l.length - N)++l.drop (l.length - N):=(List.take_append_drop _ _).symm;have hln:(l.drop (l.length - N)).length=N:=(by rw[List.length_drop];omega);generalize l.take (l.length - N)=l1 at*;generalize l.drop (l.length - N)=nd at*;subst hl;by_cases h9:o.f0=9∧nd.any RS.sv=true
   ·rw[if_pos h9]at h;injection h with _ e;cases e
   rw[if_neg h9]at h;obtain⟨x,hc1,hc2⟩:=Cov_split hc;rw[Nat.zero_add]at hc2;have hxi:=Cov_le hc2;obtain⟨d1,d2,d3⟩:=Cov_dep hc2;have hds:=dep_succ hd;rw[hN]at hds;have hfr:resFrom i nd=(x:Int):=Cov_from hc2 i (fun e=>by subst e;exact hc2.1.symm);have hsvx:=Cov_sv hc2;have hdi:dep c (i+1)=dep c x+1:=(by rw[hds,d2,d1,hln];push_cast;omega);have hFA:FromAt c i (resFrom i nd):=by
    refine⟨x,hfr,hxi,hdi.symm,fun j h1 h2=>by have:=d3 j h1 h2;rw[d1];exact this,fun hs s h1 h2 hss=>?_⟩;refine h9 ⟨?_,hsvx.2 ⟨s,h1,h2,hss⟩⟩;unfold isSv at hs;rwa[hg]at hs
   refine resP_inv r (i+1) _ _ _ outs hr ?_ (by simp[ho]) ?_ ?_ h
   ·refine Cov_join hc1 hfr (by omega) (fun j h1 h2=>?_) ?_ ?_
    ·rcases Nat.lt_or_ge i j with h3|h3
     ·have:j=i+1:=(by omega);subst this;rw[hdi,d1];push_cast;omega
     have:=d3 j h1 h3;push_cast at this ⊢;omega
    ·rw[hdi,d1];push_cast;omega
    (show(o.f0==9||nd.any RS.sv)=true ↔ _);rw[Bool.or_eq_true,hsvx,beq_iff_eq];constructor
    ·rintro(h1|⟨t,h1,h2,h3⟩)
     ·exact⟨i,hxi,by omega,by unfold isSv;rwa[hg]⟩
     exact⟨t,h1,by omega,h3⟩
    rintro⟨t,h1,h2,h3⟩;rcases Nat.lt_or_ge t i with h4|h4
    ·exact .inr ⟨t,h1,h4,h3⟩
    have:t=i:=(by omega);subst this;unfold isSv at h3;rw[hg]at h3;exact .inl h3
   ·intro t ht;rcases Nat.lt_or_ge t i with h1|h1
    ·rw[getD_append_old (by omega)];exact hf t h1
    have:t=out.length:=(by omega);rw[this,getD_append_new,ho];exact hFA
   intro t ht;rcases Nat.lt_or_ge t i with h1|h1
   ·exact hk t h1
   have:t=i:=(by omega);rw[this,hg];exact hok
theorem resultsP_inv {c:List S45} {outs:List Int} (h:resultsP c=(outs,0)):outs.length=c.length∧c.length≤128∧(∀ t,t<c.length→FromAt c t (outs.getD t 0))∧(∀ t,t<c.length→opOK (c.getD t z45)=true):=by
 unfold resultsP at h;by_cases h1:c.length>128
 ·rw[if_pos h1]at h;injection h with _ e;cases e
 rw[if_neg h1]at h;obtain⟨a,b,d⟩:=resP_inv c 0 [] [] 0 outs rfl ⟨rfl,dep_zero c⟩ rfl (fun t ht=>by omega) (fun t ht=>by omega) h;exact⟨a,by omega,b,d⟩
end Go.Proofs.Ytcfoebkbahpnaaa.L
