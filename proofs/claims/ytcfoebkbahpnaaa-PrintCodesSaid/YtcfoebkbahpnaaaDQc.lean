/- What the reference's check of a code comes to: the same as the program's. -/
import Derived.Test.YtcfoebkbahpnaaaDQb
namespace Go.Proofs.Ytcfoebkbahpnaaa.L
open Go.RowKit Go.Lib Go.Proofs.Ytcfoebkbahpnaaa Go.Proofs.YtcfoebkbahpnaaaW.PrintWords Go.Proofs.YtcfoebkbahpnaaaW.PrintLast
set_option linter.unusedVariables false
set_option linter.unusedSimpArgs false

def Tops (P : Nat → RS → Prop) : List RS → Nat → Prop
  | [], _ => True
  | R :: l, i => P ((resFrom i l).toNat - 1) R ∧ Tops P l i
theorem Tops_append (P:Nat→RS→Prop): ∀ (l1 l2:List RS) (i:Nat),Tops P (l1++l2) i ↔ Tops P l1 (resFrom i l2).toNat∧Tops P l2 i
 | [],l2,i=>by simp[Tops]
 | [R],l2,i=>by
  (show P ((resFrom i l2).toNat - 1) R∧Tops P l2 i ↔ (P ((resFrom ((resFrom i l2).toNat:Int) []).toNat - 1) R∧True)∧Tops P l2 i);rw[show resFrom ((resFrom i l2).toNat:Int) []=((resFrom i l2).toNat:Int)from rfl,Int.toNat_natCast,and_true]
 |R::R2::l1,l2,i=>by
  have ih:=Tops_append P (R2::l1) l2 i;(show P ((resFrom i (R2::(l1++l2))).toNat - 1) R∧Tops P (R2::l1++l2) i ↔ (P ((resFrom ((resFrom i l2).toNat:Int) (R2::l1)).toNat - 1) R∧Tops P (R2::l1) (resFrom i l2).toNat)∧Tops P l2 i);rw[ih,and_assoc];rfl
def PN (c : List S45) (t : Nat) (R : RS) : Prop := FromAt c t R.fr ∧ ∃ V, Ev (fun k => legationref07_Names.f k c (t : Int) false) V ∧ V.length ≤ 129 * (t + 1 - R.fr.toNat) ∧ ∀ s, s ∈ V ↔ s ∈ R.S
/-- is the name that operation t adds in scope already? -/
def Sc (c : List S45) (t : Nat) (b : Bool) : Prop :=
  ((c.getD t z45).f0 ≠ 8 ∧ b = false) ∨ ((c.getD t z45).f0 = 8 ∧ ∃ (j : Nat) (V : List ByteArray), t = j + 1 ∧ Ev (fun k => legationref07_Names.f k c (j : Int) false) V ∧ V.length ≤ 4294967296 ∧ b = (B V).contains (c.getD t z45).f4.data.toList)
theorem needs_kinds {kd:Int}:(opNeeds kd=1→7≤kd∧kd≤9)∧(opNeeds kd=2→kd=3∨kd=4∨kd=5∨kd=6)∧(opNeeds kd=0→kd=1∨kd=2):=by
 unfold opNeeds;refine⟨fun h=>?_,fun h=>?_,fun h=>?_⟩;(all_goals repeat' split at h);all_goals omega
theorem step_names {c:List S45} (hc:c.length≤128) {i:Nat} (hi:i<c.length) {o:S45} (hg:c.getD i z45=o) (hok:opOK o=true) {nd:List RS} {p x:Nat} (hcv:Cov c p x nd i) (ht:Tops (PN c) nd i) (hn:opNeeds o.f0=(nd.length:Int)) (hF:FromAt c i (resFrom i nd)) (bad:Int):
 PN c i (newRS i o nd)∧ ∃ b,Sc c i b∧resBad o bad nd=if b=true then 6 else bad:=by
 have hg':rd_T45 c (i:Int)=o:=hg;match nd,hcv,ht,hn,hF with
 | [],hcv,ht,hn,hF=>
  have hk:=needs_kinds.2.2 hn;refine⟨⟨hF,rleafP o,names0 hi hg' hn hok,?_,fun s=>rleafP_mem o s⟩,false,.inl ⟨by rw[hg];omega,rfl⟩,rfl⟩;have:=rleafP_len hok;(show _≤129*(i+1 - ((i:Int)).toNat));omega
 | [a],hcv,ht,hn,hF=>
  have hk:=needs_kinds.1 hn;obtain⟨_,hafr,m,hm1,hm2,_,_,hm3,_⟩:=hcv;subst hm3;obtain⟨j,rfl⟩: ∃ j,m=j+1:=⟨m - 1,by omega⟩;obtain⟨⟨_,V,hV,hVl,hVm⟩,_⟩:=ht;rw[show((resFrom ((j+1:Nat):Int) []).toNat - 1)=j by show(((j+1:Nat):Int)).toNat - 1=j;omega]at hV hVl;have hl:V.length≤4294967296:=(by omega);have hml:=moreP_len V o.f4;refine⟨⟨hF,_,names1 hi hg' hn hV hl hc,?_,fun s=>?_⟩,?_⟩
  ·(show _≤129*(j+1+1 - a.fr.toNat));rw[hafr]at hVl ⊢;split<;>omega
  ·(show _ ↔ s ∈ oneL o.f0 o.f4 a.S);unfold oneL;by_cases h8:o.f0=8
   ·rw[if_pos h8,if_pos h8,moreP_mem,hVm,List.mem_cons,or_comm]
   rw[if_neg h8,if_neg h8,hVm]
  by_cases h8:o.f0=8
  ·refine⟨(B V).contains o.f4.data.toList,.inr ⟨by rw[hg];exact h8,j,V,rfl,hV,hl,by rw[hg]⟩,?_⟩;have:hasB a.S o.f4=(B V).contains o.f4.data.toList:=bool_iff (by rw[hasB_iff,B_mem,hVm]);(show(if hasB a.S o.f4=true∧o.f0=8 then(6:Int)else bad)=_);rw[this];simp only[h8,and_true]
  refine⟨false,.inl ⟨by rw[hg];exact h8,rfl⟩,?_⟩;(show(if hasB a.S o.f4=true∧o.f0=8 then(6:Int)else bad)=_);rw[if_neg (fun h=>h8 h.2)];rfl
 | [a,b],hcv,ht,hn,hF=>
  have hk:=needs_kinds.2.1 hn;obtain⟨_,hafr,m,hm1,hm2,_,_,_,hbfr,m2,hm3,hm4,_,_,hm5,_⟩:=hcv;subst hm5;obtain⟨j,rfl⟩: ∃ j,m2=j+1:=⟨m2 - 1,by omega⟩;obtain⟨F,rfl⟩: ∃ F,m=F+1:=⟨m - 1,by omega⟩;obtain⟨⟨_,V,hV,hVl,hVm⟩,⟨hFb,W,hW,hWl,hWm⟩,_⟩:=ht;rw[show((resFrom ((j+1:Nat):Int) [b]).toNat - 1)=F by show b.fr.toNat - 1=F;rw[hbfr];omega]at hV hVl;rw[show((resFrom ((j+1:Nat):Int) []).toNat - 1)=j by show(((j+1:Nat):Int)).toNat - 1=j;omega]at hW hWl hFb;have hFe:=rFrom_ev hc (by omega) hFb;rw[hbfr]at hFe hWl;rw[hafr]at hVl;have hml:=foldM_len W V;refine⟨⟨hF,_,names2 hi hg' hn hFe hV hW (by omega) hc (by omega),?_,fun s=>?_⟩,false,.inl ⟨by rw[hg];rcases hk with h|h|h|h<;>rw[h]<;>decide,rfl⟩,rfl⟩
  ·(show _≤129*(j+1+1 - a.fr.toNat));rw[hafr];split<;>omega
  (show _ ↔ s ∈ twoL o.f0 a.S b.S);unfold twoL;by_cases h6:o.f0=6
  ·rw[if_pos h6,if_neg (by omega),hVm]
  rw[if_neg h6,if_pos (by rcases hk with h|h|h|h;exact .inl h;exact .inr (.inl h);exact .inr (.inr h);exact absurd h h6),foldM_mem,hVm,hWm,List.mem_append]
 |_::_::_::_,hcv,ht,hn,hF=>
  have:=opNeeds_le o.f0;simp only[List.length_cons]at hn;omega
def shapedP : Int → List S45 → Bool
  | n, [] => n == 1
  | n, o :: r => opOK o && (decide (opNeeds o.f0 ≤ n) && shapedP (n - opNeeds o.f0 + 1) r)
def Nest (c : List S45) : Prop := ∃ i, i < c.length ∧ isSv c i ∧ (∃ F : Nat, Ev (fun k => legationref07_From.f k c (i : Int)) (F : Int) ∧ ∃ s, F ≤ s ∧ s < i ∧ isSv c s) ∧ ∃ fs : List Int, ∀ t, t < i → FromAt c t (fs.getD t 0)
theorem getDb_new (L:List Bool) (x:Bool):(L++ [x]).getD L.length false=x:=by simp[List.getD_eq_getElem?_getD]
theorem getDb_old {L:List Bool} {x:Bool} {t:Nat} (h:t<L.length):(L++ [x]).getD t false=L.getD t false:=by
 rw[List.getD_eq_getElem?_getD,List.getD_eq_getElem?_getD,List.getElem?_append_left h]
theorem resP_ref {c:List S45} (hlen:c.length≤128): ∀ (r:List S45) (i:Nat) (out:List Int) (l:List RS) (bad:Int) (L:List Bool),c.drop i=r→i≤c.length→Cov c 0 0 l i→out.length=i→(∀ t,t<i→FromAt c t (out.getD t 0))→(∀ t,t<i→opOK (c.getD t z45)=true)→Tops (PN c) l i→L.length=i→(∀ t,t<i→Sc c t (L.getD t false))→bad=(if L.any id=true then 6 else 0)→
 (resP i r out l bad=([],2)∧(shapedP l.length r=false∨Nest c))∨
 (shapedP l.length r=true∧ ∃ (outs:List Int) (M:List Bool),resP i r out l bad=(outs,if M.any id=true then 6 else 0)∧outs.length=c.length∧(∀ t,t<c.length→FromAt c t (outs.getD t 0))∧(∀ t,t<c.length→opOK (c.getD t z45)=true)∧M.length=c.length∧ ∀ t,t<c.length→Sc c t (M.getD t false))
 | [],i,out,l,bad,L,hd,hic,hc,ho,hf,hk,ht,hL,hs,hb=>by
  have hi:=len_of_drop hd;have hi':i=c.length:=(by omega);subst hi';rw[resP];by_cases h1:l.length=1
  ·rw[if_pos h1,hb];exact .inr ⟨by show(((l.length:Nat):Int)==1)=true;rw[h1];rfl,out,L,rfl,ho,hf,hk,hL,hs⟩
  rw[if_neg h1];exact .inl ⟨rfl,.inl (show(((l.length:Nat):Int)==1)=false from beq_eq_false_iff_ne.mpr (by omega))⟩
 |o::r,i,out,l,bad,L,hd,hic,hc,ho,hf,hk,ht,hL,hs,hb=>by
  obtain⟨hg,hi,hr,_⟩:=get_of_drop hd z45;rw[Int.toNat_natCast]at hg;rw[resP,shapedP];cases hok:opOK o with
  |false=>rw[if_pos rfl];exact .inl ⟨rfl,.inl rfl⟩
  |true=>
   rw[if_neg (by decide),Bool.true_and];by_cases hlt:(l.length:Int)<opNeeds o.f0
   ·rw[if_pos hlt,decide_eq_false (by omega)];exact .inl ⟨rfl,.inl rfl⟩
   rw[if_neg hlt,decide_eq_true (by omega),Bool.true_and];have hn:=opOK_needs hok;obtain⟨N,hN⟩: ∃ N:Nat,opNeeds o.f0=(N:Int):=⟨(opNeeds o.f0).toNat,by omega⟩;rw[hN,Int.toNat_natCast];have hNl:N≤l.length:=(by omega);have hl:l=l.take (l.length - N)++l.drop (l.length - N):=(List.take_append_drop _ _).symm;have hln:(l.drop (l.length - N)).length=N:=(by rw[List.length_drop];omega);generalize l.take (l.length - N)=l1 at*;generalize l.drop (l.length - N)=nd at*;subst hl;obtain⟨x,hc1,hc2⟩:=Cov_split hc;rw[Nat.zero_add]at hc2;have hxi:=Cov_le hc2;obtain⟨d1,d2,d3⟩:=Cov_dep hc2;have hds:=dep_succ hd;rw[hN]at hds;have hfr:resFrom i nd=(x:Int):=Cov_from hc2 i (fun e=>by subst e;exact hc2.1.symm);have hsvx:=Cov_sv hc2;have hdi:dep c (i+1)=dep c x+1:=(by rw[hds,d2,d1,hln];push_cast;omega);(have hjj: ∀ j,x<j→j≤i→dep c x+1≤dep c j:=fun j h1 h2=>by have:=d3 j h1 h2;rw[d1];exact this);by_cases h9:o.f0=9∧nd.any RS.sv=true
   ·rw[if_pos h9];refine .inl ⟨rfl,.inr ⟨i,hi,by unfold isSv;rw[hg];exact h9.1,⟨x,?_,hsvx.1 h9.2⟩,out,hf⟩⟩;have:=rFrom_loop c hlen x i hi hjj (i - x) i (by omega) (Nat.le_refl _);rw[show dep c (i+1) - dep c x=1 by omega]at this;exact this
   rw[if_neg h9];have hFA:FromAt c i (resFrom i nd):=by
    refine⟨x,hfr,hxi,hdi.symm,hjj,fun hs s h1 h2 hss=>?_⟩;refine h9 ⟨?_,hsvx.2 ⟨s,h1,h2,hss⟩⟩;unfold isSv at hs;rwa[hg]at hs
   obtain⟨ht1,ht2⟩:=(Tops_append (PN c) l1 nd i).1 ht;obtain⟨hPN,b,hSc,hrb⟩:=step_names hlen hi hg hok hc2 ht2 (by rw[hN,hln]) hFA bad;have:=resP_ref hlen r (i+1) (out++ [resFrom i nd]) (l1++ [newRS i o nd]) (resBad o bad nd) (L++ [b]) hr (by omega) ?_ (by simp[ho]) ?_ ?_ ?_ (by simp[hL]) ?_ ?_
   ·rw[show((l1++ [newRS i o nd]).length:Int)=((l1++nd).length:Int) - (N:Int)+1 by simp;omega]at this;exact this
   ·refine Cov_join hc1 hfr (by omega) (fun j h1 h2=>?_) ?_ ?_
    ·rcases Nat.lt_or_ge i j with h3|h3
     ·have:j=i+1:=(by omega);subst this;rw[hdi,d1];push_cast;omega
     have:=d3 j h1 h3;push_cast at this ⊢;omega
    ·rw[hdi,d1];push_cast;omega
    (show(o.f0==9||nd.any RS.sv)=true ↔ _);rw[Bool.or_eq_true,hsvx,beq_iff_eq];constructor
    ·rintro(h1|⟨t,h1,h2,h3⟩)
     ·exact⟨i,hxi,by omega,by unfold isSv;rwa[hg]⟩
     exact⟨t,h1,by omega,h3⟩
    rintro⟨t,h1,h2,h3⟩;rcases Nat.lt_or_ge t i with h4|h4
    ·exact .inr ⟨t,h1,h4,h3⟩
    have:t=i:=(by omega);subst this;unfold isSv at h3;rw[hg]at h3;exact .inl h3
   ·intro t ht;rcases Nat.lt_or_ge t i with h1|h1
    ·rw[getD_append_old (by omega)];exact hf t h1
    have:t=out.length:=(by omega);rw[this,getD_append_new,ho];exact hFA
   ·intro t ht;rcases Nat.lt_or_ge t i with h1|h1
    ·exact hk t h1
    have:t=i:=(by omega);rw[this,hg];exact hok
   ·rw[Tops_append];refine⟨?_,?_,trivial⟩
    ·(show Tops (PN c) l1 (resFrom i nd).toNat);exact ht1
    (show PN c (((i+1:Nat):Int).toNat - 1) (newRS i o nd));rw[Int.toNat_natCast,Nat.add_sub_cancel];exact hPN
   ·intro t ht;rcases Nat.lt_or_ge t i with h1|h1
    ·rw[getDb_old (by omega)];exact hs t h1
    have:t=L.length:=(by omega);rw[this,getDb_new,hL];exact hSc
   rw[hrb,hb,List.any_append];cases b<;>cases L.any id<;>rfl
/-! ### the reference's own loops -/
theorem shaped_loop (c:List S45) (hc:c.length≤128) (hb: ∀ o ∈ c,o.f1.length≤9223372036854775807): ∀ (r:List S45) (i:Nat) (n:Int),c.drop i=r→0≤n→n≤i→
 Ev (fun k=>legationref07_shaped.l0 k c n (i:Int)) (shapedP n r):=by
 intro r;induction r with
 |nil=>
  intro i n hd h0 h1;have:=len_of_drop hd;refine Ev.step (fun k=>by rw[legationref07_shaped.l0]) ?_;simp only[if_neg (show ¬((i:Int)<(c.length:Int))by omega),shapedP];exact Ev.now _
 |cons o r ih=>
  intro i n hd h0 h1;obtain⟨hg,hi,hr,_⟩:=get_of_drop hd z45;refine Ev.step (fun k=>by rw[legationref07_shaped.l0]) ?_;have e:rd_T45 c (i:Int)=o:=hg;have ho:o ∈ c:=by
   have:o ∈ c.drop i:=(by rw[hd];exact List.mem_cons_self ..);exact List.mem_of_mem_drop this
  simp only[if_pos (show(i:Int)<(c.length:Int)by omega),if_pos (show(0:Int)≤(i:Int)by omega),e,wrap_succ (show i<9223372036854775807 by omega),shapedP];refine Ev.bind (ropOK_ev o (hb o ho)) ?_;cases hok:opOK o with
  |false=>simp only[Bool.false_eq_true,if_false,Bool.false_and];exact Ev.now _
  |true=>
   simp only[if_true,Bool.true_and];have hn:=opOK_needs hok;refine Ev.bind (rneeds_ev _ _ _ _ _ _ _) ?_;by_cases hlt:opNeeds o.f0>n
   ·simp only[if_pos hlt,decide_eq_false (show ¬ opNeeds o.f0≤n by omega),Bool.false_and];exact Ev.now _
   simp only[if_neg hlt,decide_eq_true (show opNeeds o.f0≤n by omega),Bool.true_and];refine Ev.bind (rneeds_ev _ _ _ _ _ _ _) ?_;rw[show wrap64 (wrap64 (n - opNeeds o.f0)+1)=n - opNeeds o.f0+1 by unfold wrap64;omega];exact ih (i+1) _ hr (by omega) (by omega)
theorem nest_pass (c:List S45) (hc:c.length≤128) (i:Nat) (hi:i<c.length) {v:Bool} (hn:Ev (fun k=>legationref07_nested.l0 k c ((i+1:Nat):Int)) v): ∀ (d j:Nat),j+d=i→(∀ s,j≤s→s<i→¬ isSv c s)→Ev (fun k=>legationref07_nested.l1 k c (i:Int) (j:Int)) v
 |0,j,hj,hs=>by
  refine Ev.step (fun k=>by rw[legationref07_nested.l1]) ?_;simp only[if_neg (show ¬((j:Int)<(i:Int))by omega),wrap_succ (show i<9223372036854775807 by omega)];exact hn
 |d+1,j,hj,hs=>by
  refine Ev.step (fun k=>by rw[legationref07_nested.l1]) ?_;have h9:¬(rd_T45 c (j:Int)).f0=9:=hs j (Nat.le_refl _) (by omega);simp only[if_pos (show(j:Int)<(i:Int)by omega),if_pos (show(0:Int)≤(j:Int)by omega),if_pos (show(j:Int)<(c.length:Int)by omega),if_neg h9,wrap_succ (show j<9223372036854775807 by omega)];exact nest_pass c hc i hi hn d (j+1) (by omega) (fun s h1 h2=>hs s (by omega) h2)
theorem nest_hit (c:List S45) (hc:c.length≤128) (i:Nat) (hi:i<c.length): ∀ (d j:Nat),j+d=i→(∃ s,j≤s∧s<i∧isSv c s)→Ev (fun k=>legationref07_nested.l1 k c (i:Int) (j:Int)) true
 |0,j,hj,hs=>by
  obtain⟨s,h1,h2,_⟩:=hs;omega
 |d+1,j,hj,hs=>by
  refine Ev.step (fun k=>by rw[legationref07_nested.l1]) ?_;simp only[if_pos (show(j:Int)<(i:Int)by omega),if_pos (show(0:Int)≤(j:Int)by omega),if_pos (show(j:Int)<(c.length:Int)by omega),wrap_succ (show j<9223372036854775807 by omega)];by_cases h9:(rd_T45 c (j:Int)).f0=9
  ·simp only[if_pos h9];exact Ev.now _
  simp only[if_neg h9];obtain⟨s,h1,h2,h3⟩:=hs;refine nest_hit c hc i hi d (j+1) (by omega) ⟨s,?_,h2,h3⟩;rcases Nat.lt_or_ge j s with h4|h4
  ·omega
  have:s=j:=(by omega);subst this;exact absurd h3 h9
theorem nest_go (c:List S45) (hc:c.length≤128) (fs:List Int) (m:Nat) (hm:m≤c.length) (hF: ∀ t,t<m→FromAt c t (fs.getD t 0)) {v:Bool} (hv:Ev (fun k=>legationref07_nested.l0 k c (m:Int)) v): ∀ (d t:Nat),t+d=m→Ev (fun k=>legationref07_nested.l0 k c (t:Int)) v
 |0,t,ht=>by
  have:t=m:=(by omega);subst this;exact hv
 |d+1,t,ht=>by
  have ih:=nest_go c hc fs m hm hF hv d (t+1) (by omega);refine Ev.step (fun k=>by rw[legationref07_nested.l0]) ?_;simp only[if_pos (show(t:Int)<(c.length:Int)by omega),if_pos (show(0:Int)≤(t:Int)by omega),wrap_succ (show t<9223372036854775807 by omega)];by_cases h9:(rd_T45 c (t:Int)).f0=9
  ·simp only[if_pos h9];have hf:=hF t (by omega);refine Ev.bind (rFrom_ev hc (by omega) hf) ?_;obtain⟨f,hfe,hft,_,_,hs⟩:=hf;rw[hfe];exact nest_pass c hc t (by omega) ih (t - f) f (by omega) (hs h9)
  simp only[if_neg h9];exact ih
theorem nested_no (c:List S45) (hc:c.length≤128) (fs:List Int) (hF: ∀ t,t<c.length→FromAt c t (fs.getD t 0)):Ev (fun k=>legationref07_nested.f k c) false:=by
 unfold legationref07_nested.f;refine nest_go c hc fs c.length (Nat.le_refl _) hF ?_ c.length 0 (by omega);refine Ev.step (fun k=>by rw[legationref07_nested.l0]) ?_;simp only[if_neg (show ¬((c.length:Int)<(c.length:Int))by omega)];exact Ev.now _
theorem nested_yes (c:List S45) (hc:c.length≤128) (h:Nest c):Ev (fun k=>legationref07_nested.f k c) true:=by
 obtain⟨i,hi,h9,⟨F,hFe,s,h1,h2,h3⟩,fs,hF⟩:=h;unfold legationref07_nested.f;refine nest_go c hc fs i (by omega) hF ?_ i 0 (by omega);refine Ev.step (fun k=>by rw[legationref07_nested.l0]) ?_;have h9':(rd_T45 c (i:Int)).f0=9:=h9;simp only[if_pos (show(i:Int)<(c.length:Int)by omega),if_pos (show(0:Int)≤(i:Int)by omega),if_pos h9'];refine Ev.bind hFe ?_;exact nest_hit c hc i hi (i - F) F (by omega) ⟨s,h1,h2,h3⟩
theorem chk_loop (c:List S45) (hc:c.length≤128): ∀ (M:List Bool) (t:Nat),t+M.length=c.length→(∀ j,j<M.length→Sc c (t+j) (M.getD j false))→Ev (fun k=>legationref07_Check.l0 k c (t:Int)) (if M.any id=true then 6 else 0)
 | [],t,ht,hs=>by
  refine Ev.step (fun k=>by rw[legationref07_Check.l0]) ?_;simp only[List.length_nil]at ht;simp only[if_neg (show ¬((t:Int)<(c.length:Int))by omega),List.any_nil,Bool.false_eq_true,if_false];exact Ev.now _
 |b::M,t,ht,hs=>by
  simp only[List.length_cons]at ht;have ih:=chk_loop c hc M (t+1) (by omega) (fun j hj=>by
   have:=hs (j+1) (by simp;omega);rw[show t+1+j=t+(j+1)by omega];simpa using this)
  have h0:=hs 0 (by simp);refine Ev.step (fun k=>by rw[legationref07_Check.l0]) ?_;simp only[if_pos (show(t:Int)<(c.length:Int)by omega),if_pos (show(0:Int)≤(t:Int)by omega),wrap_succ (show t<9223372036854775807 by omega),List.any_cons,id];rw[Nat.add_zero,show(b::M).getD 0 false=b from rfl]at h0;have j2:Ev (fun k=>legationref07_Check.j2 k c (t:Int) b) (if(b||M.any fun x=>x)=true then 6 else 0):=by
   refine Ev.step (fun k=>by rw[legationref07_Check.j2]) ?_;simp only[wrap_succ (show t<9223372036854775807 by omega)];cases b with
   |true=>simp only[if_true,Bool.true_or];exact Ev.now _
   |false=>simp only[Bool.false_eq_true,if_false,Bool.false_or];exact ih
  rcases h0 with ⟨h8,hb⟩|⟨h8,j,V,rfl,hV,hl,hb⟩
  ·have h8':¬(rd_T45 c (t:Int)).f0=8:=h8;subst hb;simp only[if_neg h8'];exact j2
  have h8':(rd_T45 c ((j+1:Nat):Int)).f0=8:=h8;simp only[if_pos h8'];rw[show wrap64 (((j+1:Nat):Int) - 1)=(j:Int)by unfold wrap64;omega];refine Ev.bind hV (Ev.bind (in_ev V (by omega) _) ?_);have hb':(B V).contains (rd_T45 c ((j+1:Nat):Int)).f4.data.toList=b:=hb.symm;rw[hb'];exact j2
theorem rcheck_ev (c:List S45) (hb: ∀ o ∈ c,o.f1.length≤9223372036854775807):Ev (fun k=>legationref07_Check.f k c) (resultsP c).2:=by
 unfold legationref07_Check.f resultsP;by_cases h:c.length>128
 ·simp only[if_pos (show(c.length:Int)>128 by omega),if_pos h];exact Ev.now _
 simp only[if_neg (show ¬(c.length:Int)>128 by omega),if_neg h];have hc:c.length≤128:=(by omega);refine Ev.bind (shaped_loop c hc hb c 0 0 rfl (by omega) (by omega)) ?_;have j0t:Ev (fun k=>legationref07_Check.j0 k c true) 2:=by
  refine Ev.step (fun k=>by rw[legationref07_Check.j0]) ?_;simp only[if_true];exact Ev.now _
 rcases resP_ref hc c 0 [] [] 0 [] rfl (Nat.zero_le _) ⟨rfl,dep_zero c⟩ rfl (fun t ht=>by omega) (fun t ht=>by omega) trivial rfl (fun t ht=>by omega) rfl with ⟨he,hf⟩|⟨hsh,outs,M,he,_,hF,_,hM,hSc⟩
 ·rw[he];cases hsh:shapedP 0 c with
  |false=>simp only[Bool.false_eq_true,if_false];exact j0t
  |true=>
   simp only[if_true];rcases hf with hf|hf
   ·have:shapedP 0 c=false:=hf;rw[this]at hsh;cases hsh
   exact Ev.bind (nested_yes c hc hf) j0t
 have hsh':shapedP 0 c=true:=hsh;rw[he,hsh'];simp only[if_true];refine Ev.bind (nested_no c hc outs hF) ?_;refine Ev.step (fun k=>by rw[legationref07_Check.j0]) ?_;simp only[Bool.false_eq_true,if_false];exact chk_loop c hc M 0 (by omega) (fun j hj=>by rw[Nat.zero_add];exact hSc j (by omega))
end Go.Proofs.Ytcfoebkbahpnaaa.L
