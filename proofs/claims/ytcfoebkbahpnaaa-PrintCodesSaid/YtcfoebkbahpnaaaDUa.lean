/- What the terms' texts and print.words come to. -/
import Derived.Test.YtcfoebkbahpnaaaDQc
namespace Go.Proofs.Ytcfoebkbahpnaaa.L
open Go.RowKit Go.Lib Go.Proofs.Ytcfoebkbahpnaaa Go.Proofs.YtcfoebkbahpnaaaW.PrintWords Go.Proofs.YtcfoebkbahpnaaaW.PrintLast
set_option linter.unusedVariables false
set_option linter.unusedSimpArgs false

theorem ba_ext {x y:ByteArray} (h:x.data.toList=y.data.toList):x=y:=by rw[← ofL_data x,← ofL_data y,h]
theorem app_data (a b:ByteArray):(a++b).data.toList=a.data.toList++b.data.toList:=by
 conv=>lhs;rw[← ofL_data a,← ofL_data b,ofL_append,ofL_toList]
theorem esc_len (l:List UInt8):(esc l).length≤2*l.length:=by
 induction l with
 |nil=>simp[esc]
 |cons b l ih=>
  rw[show esc (b::l)=escB b++esc l from rfl,List.length_append,List.length_cons];have:(escB b).length≤2:=by
   unfold escB;(repeat' split);all_goals simp
  omega
theorem quoted_loop (s:ByteArray) (hs:s.size≤4096): ∀ (r:List UInt8) (i:Nat) (acc:List UInt8),s.data.toList.drop i=r→i≤s.size→acc.length≤1+2*i→
 Ev (fun k=>term_quoted.l0 k s (nat acc) (i:Int)) (ofL (acc++esc r++ [34])):=by
 intro r;induction r with
 |nil=>
  intro i acc hd hi ha;have:=size_of_drop hd;refine Ev.step (fun k=>by rw[term_quoted.l0]) ?_;simp only[if_neg (show ¬((i:Int)<(s.size:Int))by omega),if_pos (show(nat acc).length<140737488355328 by rw[nat_length];omega)];rw[show nat acc++ [34]=nat (acc++ [34])by rw[nat_append];rfl,strOfNums_nat,show esc []= []from rfl,List.append_nil];exact Ev.now _
 |cons c r ih=>
  intro i acc hd hi ha;obtain⟨hb,his,hr⟩:=bt_of_drop hd;have two: ∀ d:UInt8,escB c= [92,d]→Ev (fun k=>if(nat acc).length+([92,(d.toNat:Int)]:List Int).length<140737488355328 then term_quoted.l0 k s (nat acc++ [92,(d.toNat:Int)]) ((i+1:Nat):Int)else none) (ofL (acc++esc (c::r)++ [34])):=by
   intro d hd2;simp only[if_pos (show(nat acc).length+([92,(d.toNat:Int)]:List Int).length<140737488355328 by rw[nat_length];simp;omega)];have h:=ih (i+1) (acc++ [92,d]) hr (by omega) (by simp;omega);rw[nat_append]at h;rw[show esc (c::r)=escB c++esc r from rfl,hd2,← List.append_assoc acc];exact h
  refine Ev.step (fun k=>by rw[term_quoted.l0]) ?_;simp only[if_pos (show(i:Int)<(s.size:Int)by omega),if_pos (show(0:Int)≤(i:Int)by omega),hb];have j1t:(c.toNat=34∨c.toNat=92)→Ev (fun k=>term_quoted.j1 k s (nat acc) (i:Int) (c.toNat:Int) true) (ofL (acc++esc (c::r)++ [34])):=by
   intro hc;refine Ev.step (fun k=>by rw[term_quoted.j1]) ?_;simp only[if_true,if_pos (show(i:Int)<(s.size:Int)by omega),if_pos (show(0:Int)≤(i:Int)by omega),hb,Option.bind_some,wrap_succ (show i<9223372036854775807 by omega)];exact two c (by
    unfold escB
    rcases hc with hc|hc
    ·rw[if_pos hc,byte_eq hc (by decide)];rfl
    rw[if_neg (by omega),if_pos hc,byte_eq hc (by decide)]
    rfl)
  by_cases h1:c.toNat=34
  ·simp only[if_pos (show(c.toNat:Int)=34 by omega),beq_iff_eq.mpr (show(c.toNat:Int)=34 by omega)];exact j1t (.inl h1)
  simp only[if_neg (show ¬((c.toNat:Int)=34)by omega)];by_cases h2:c.toNat=92
  ·simp only[beq_iff_eq.mpr (show(c.toNat:Int)=92 by omega)];exact j1t (.inr h2)
  simp only[beq_eq_false_iff_ne.mpr (show ¬((c.toNat:Int)=92)by omega)];refine Ev.step (fun k=>by rw[term_quoted.j1]) ?_;simp only[Bool.false_eq_true,if_false,if_pos (show(i:Int)<(s.size:Int)by omega),if_pos (show(0:Int)≤(i:Int)by omega),hb,Option.bind_some,wrap_succ (show i<9223372036854775807 by omega)];by_cases h3:c.toNat=10
  ·simp only[if_pos (show(c.toNat:Int)=10 by omega)];exact two 110 (by unfold escB;rw[if_neg h1,if_neg h2,if_pos h3])
  simp only[if_neg (show ¬((c.toNat:Int)=10)by omega)];by_cases h4:c.toNat=9
  ·simp only[if_pos (show(c.toNat:Int)=9 by omega)];exact two 116 (by unfold escB;rw[if_neg h1,if_neg h2,if_neg h3,if_pos h4])
  simp only[if_neg (show ¬((c.toNat:Int)=9)by omega),if_pos (show(nat acc).length<140737488355328 by rw[nat_length];omega)];have h:=ih (i+1) (acc++ [c]) hr (by omega) (by simp;omega);rw[nat_append]at h;rw[show esc (c::r)=escB c++esc r from rfl,show escB c= [c]by unfold escB;rw[if_neg h1,if_neg h2,if_neg h3,if_neg h4],← List.append_assoc acc];exact h
theorem quoted_ev (s:ByteArray) (hs:s.size≤4096):Ev (fun k=>term_quoted.f k s) (ofL (34::(esc s.data.toList++ [34]))):=by
 unfold term_quoted.f;exact quoted_loop s hs _ 0 [34] rfl (by omega) (by simp)
theorem okIri_len {l:List UInt8} (h:okIri l=true):l.length≤4096∧l≠ []:=by
 unfold okIri at h;simp only[Bool.and_eq_true,decide_eq_true_eq,Bool.not_eq_true']at h;exact⟨h.1.2,by intro e;rw[e]at h;simp at h⟩
theorem okName_len {l:List UInt8} (h:okName l=true):l.length≤32∧l≠ []:=by
 rw[okName_all]at h;simp only[Bool.and_eq_true,decide_eq_true_eq]at h;exact⟨h.1.1.2,by intro e;rw[e]at h;simp at h⟩
theorem okLang_len {l:List UInt8} (h:okLang l=true):l.length≤8:=by
 unfold okLang at h;simp only[Bool.and_eq_true,decide_eq_true_eq]at h;exact h.1.2
theorem okText_len {l:List UInt8} (h:okText l=true):l.length≤4096:=by
 unfold okText at h;simp only[Bool.and_eq_true,decide_eq_true_eq]at h;exact h.1
theorem okTm_two {t:Tm} (h:okTm t=true) (hk:t.k=2):okText t.x=true∧(t.ty= []∨(okIri t.ty=true∧t.la= []))∧(t.la= []∨okLang t.la=true):=by
 unfold okTm at h;rw[if_pos hk]at h;simp only[Bool.and_eq_true,Bool.or_eq_true]at h;obtain⟨⟨h1,h2⟩,h3⟩:=h;refine⟨h1,?_,?_⟩
 ·rcases h2 with h2|h2
  ·exact .inl (isEmpty_nil h2)
  refine .inr ⟨h2,?_⟩;rcases h3 with h3|⟨h3,_⟩
  ·exact isEmpty_nil h3
  exact absurd (isEmpty_nil h3) (okIri_len h2).2
 rcases h3 with h3|⟨_,h3⟩
 ·exact .inl (isEmpty_nil h3)
 exact .inr h3
theorem okTm_other {t:Tm} (h:okTm t=true) (hk:t.k≠2):t.ty= []∧t.la= []∧t.x.length≤4096∧(t.k=0→t.x= [])∧(t.k=1→okIri t.x=true)∧(t.k=3∨t.k=4→okName t.x=true)∧(t.k=0∨t.k=1∨t.k=3∨t.k=4):=by
 unfold okTm at h;rw[if_neg hk]at h;simp only[Bool.and_eq_true]at h;obtain⟨⟨h1,h2⟩,h3⟩:=h;by_cases k0:t.k=0
 ·rw[if_pos k0]at h3;have:=isEmpty_nil h3;exact⟨isEmpty_nil h1,isEmpty_nil h2,by rw[this];simp,fun _=>this,fun h=>by omega,fun h=>by omega,.inl k0⟩
 rw[if_neg k0]at h3;by_cases k1:t.k=1
 ·rw[if_pos k1]at h3;exact⟨isEmpty_nil h1,isEmpty_nil h2,(okIri_len h3).1,fun h=>by omega,fun _=>h3,fun h=>by omega,.inr (.inl k1)⟩
 rw[if_neg k1]at h3;by_cases k34:t.k=3∨t.k=4
 ·rw[if_pos k34]at h3;exact⟨isEmpty_nil h1,isEmpty_nil h2,by have:=(okName_len h3).1;omega,fun h=>by omega,fun h=>by omega,fun _=>h3,.inr (.inr k34)⟩
 rw[if_neg k34]at h3;cases h3
theorem ttext_len {t:Tm} (h:okTm t=true):(ttext t).length≤20000:=by
 by_cases hk:t.k=2
 ·obtain⟨h1,h2,h3⟩:=okTm_two h hk;have l1:=esc_len t.x;have l2:=okText_len h1;have l3:t.ty.length≤4096:=by rcases h2 with h2|h2;rw[h2];simp;exact(okIri_len h2.1).1
  have l4:t.la.length≤8:=by rcases h3 with h3|h3;rw[h3];simp;exact okLang_len h3
  have e:ttext t=34::(esc t.x++34::tail2 t):=(by unfold ttext;rw[if_neg (by omega),if_neg (by omega),if_neg (by omega),if_pos hk]);rw[e];have l5:(tail2 t).length≤4096+4+9:=by
   unfold tail2;rw[List.length_append];split<;>split<;>simp<;>omega
  simp only[List.length_cons,List.length_append];omega
 have h':=(okTm_other h hk).2.2.1;unfold ttext;split
 ·simp;omega
 split
 ·simp;omega
 split
 ·simp;omega
 simp
theorem text_ev (k0:Int) (a b c:ByteArray) (h:okTm (TT k0 a b c)=true):Ev (fun k=>term_Text.f k k0 a b c) (ofL (ttext (TT k0 a b c)),0):=by
 unfold term_Text.f;refine Ev.bind (tcheck_ev k0 a b c) ?_;rw[h,e02_true];simp only[if_true,tl];by_cases k2:k0=2
 ·subst k2;obtain⟨h1,h2,h3⟩:=okTm_two h rfl;have l2:=okText_len h1;rw[show(TT 2 a b c).x=a.data.toList from rfl,size_toList]at l2;simp only[if_neg (show ¬((2:Int)=1)by decide),if_neg (show ¬((2:Int)=3)by decide),if_neg (show ¬((2:Int)=4)by decide)];refine Ev.bind (quoted_ev a l2) ?_;have lq:=esc_len a.data.toList;rw[size_toList]at lq;have e:ttext (TT 2 a b c)=34::(esc a.data.toList++34::tail2 (TT 2 a b c)):=rfl;rw[e];by_cases hb:b.data.toList= []
  ·simp only[if_pos hb];by_cases hc:c.data.toList= []
   ·simp only[if_pos hc];rw[show tail2 (TT 2 a b c)= []by
     (show(if b.data.toList.isEmpty then _ else _)++(if c.data.toList.isEmpty then _ else _)=_);rw[hb,hc];rfl]
    exact Ev.now _
   simp only[if_neg hc];have l4:c.size≤8:=by
    rcases h3 with h3|h3
    ·exact absurd h3 hc
    have:=okLang_len h3;rwa[show(TT 2 a b c).la=c.data.toList from rfl,size_toList]at this
   have z1:((⟨#[64]⟩:ByteArray)++c).size=1+c.size:=(by rw[ByteArray.size_append];rfl);have z3:(ofL (34::(esc a.data.toList++ [34]))).size≤8194:=(by rw[ofL_size];simp;omega);rw[if_pos (by omega),if_pos (by rw[z1];omega)];rw[show tail2 (TT 2 a b c)=64::c.data.toList by
    (show(if b.data.toList.isEmpty then _ else _)++(if c.data.toList.isEmpty then _ else _)=_);rw[hb,ne_empty hc];rfl]
   rw[show ofL (34::(esc a.data.toList++34::64::c.data.toList))=ofL (34::(esc a.data.toList++ [34]))++((⟨#[64]⟩:ByteArray)++c)from ba_ext (by simp[app_data,ofL_toList])];exact Ev.now _
  simp only[if_neg hb];obtain⟨h2,hc⟩:okIri b.data.toList=true∧c.data.toList= []:=by
   rcases h2 with h2|h2
   ·exact absurd h2 hb
   exact h2
  have l3:=(okIri_len h2).1;rw[size_toList]at l3;have z1:((⟨#[94,94,60]⟩:ByteArray)++b).size=3+b.size:=(by rw[ByteArray.size_append];rfl);have z2:(((⟨#[94,94,60]⟩:ByteArray)++b)++(⟨#[62]⟩:ByteArray)).size=3+b.size+1:=(by rw[ByteArray.size_append,z1];rfl);have z3:(ofL (34::(esc a.data.toList++ [34]))).size≤8194:=(by rw[ofL_size];simp;omega);rw[if_pos (by omega),if_pos (by rw[z1];omega),if_pos (by rw[z2];omega),if_pos hc];rw[show tail2 (TT 2 a b c)=94::94::60::(b.data.toList++ [62])by
   (show(if b.data.toList.isEmpty then _ else _)++(if c.data.toList.isEmpty then _ else _)=_);rw[hc,ne_empty hb];(show _++ []=_);rw[List.append_nil];rfl]
  rw[show ofL (34::(esc a.data.toList++34::94::94::60::(b.data.toList++ [62])))=ofL (34::(esc a.data.toList++ [34]))++(((⟨#[94,94,60]⟩:ByteArray)++b)++(⟨#[62]⟩:ByteArray))from ba_ext (by simp[app_data,ofL_toList])];exact Ev.now _
 obtain⟨_,_,hl,hk⟩:=okTm_other h k2;rw[show(TT k0 a b c).x=a.data.toList from rfl,size_toList]at hl;by_cases k1:k0=1
 ·simp only[if_pos k1];have z1:((⟨#[60]⟩:ByteArray)++a).size=1+a.size:=(by rw[ByteArray.size_append];rfl);rw[if_pos (by omega),if_pos (by rw[z1];omega)];rw[show ttext (TT k0 a b c)=60::(a.data.toList++ [62])by simp[ttext,TT,k1]];rw[show ofL (60::(a.data.toList++ [62]))=((⟨#[60]⟩:ByteArray)++a)++(⟨#[62]⟩:ByteArray)from ba_ext (by simp[app_data,ofL_toList])];exact Ev.now _
 simp only[if_neg k1];by_cases k3:k0=3
 ·simp only[if_pos k3];rw[if_pos (by omega)];rw[show ttext (TT k0 a b c)=95::58::a.data.toList by simp[ttext,TT,k3]];rw[show ofL (95::58::a.data.toList)=(⟨#[95,58]⟩:ByteArray)++a from ba_ext (by simp[app_data,ofL_toList])];exact Ev.now _
 simp only[if_neg k3];by_cases k4:k0=4
 ·simp only[if_pos k4];rw[if_pos (by omega)];rw[show ttext (TT k0 a b c)=63::a.data.toList by simp[ttext,TT,k4]];rw[show ofL (63::a.data.toList)=(⟨#[63]⟩:ByteArray)++a from ba_ext (by simp[app_data,ofL_toList])];exact Ev.now _
 simp only[if_neg k4,if_neg k2];rw[show ttext (TT k0 a b c)= []by simp[ttext,TT,k1,k2,k3,k4]];exact Ev.now _
theorem rescaped_loop (s:ByteArray) (hs:s.size≤4096): ∀ (r:List UInt8) (i:Nat) (acc:List UInt8),s.data.toList.drop i=r→i≤s.size→acc.length≤2*i→
 Ev (fun k=>legationref01_escaped.l0 k s (ofL acc) (i:Int)) (ofL (acc++esc r)):=by
 intro r;induction r with
 |nil=>
  intro i acc hd hi ha;have:=size_of_drop hd;refine Ev.step (fun k=>by rw[legationref01_escaped.l0]) ?_;simp only[if_neg (show ¬((i:Int)<(s.size:Int))by omega)];rw[show esc []= []from rfl,List.append_nil];exact Ev.now _
 |cons c r ih=>
  intro i acc hd hi ha;obtain⟨hb,his,hr⟩:=bt_of_drop hd;have two: ∀ d:List UInt8,escB c=d→d.length≤2→Ev (fun k=>legationref01_escaped.l0 k s (ofL acc++ofL d) ((i+1:Nat):Int)) (ofL (acc++esc (c::r))):=by
   intro d hd2 hl;have h:=ih (i+1) (acc++d) hr (by omega) (by simp;omega);rw[show esc (c::r)=escB c++esc r from rfl,hd2,← List.append_assoc acc,ofL_append];exact h
  refine Ev.step (fun k=>by rw[legationref01_escaped.l0]) ?_;simp only[if_pos (show(i:Int)<(s.size:Int)by omega),if_pos (show(0:Int)≤(i:Int)by omega),hb,wrap_succ (show i<9223372036854775807 by omega)];have hz:(ofL acc).size+2≤9223372036854775807:=(by rw[ofL_size];omega);by_cases h1:c.toNat=34
  ·simp only[if_pos (show(c.toNat:Int)=34 by omega),if_pos hz];exact two [92,34] (by unfold escB;rw[if_pos h1]) (by simp)
  simp only[if_neg (show ¬((c.toNat:Int)=34)by omega)];by_cases h2:c.toNat=92
  ·simp only[if_pos (show(c.toNat:Int)=92 by omega),if_pos hz];exact two [92,92] (by unfold escB;rw[if_neg h1,if_pos h2]) (by simp)
  simp only[if_neg (show ¬((c.toNat:Int)=92)by omega)];by_cases h3:c.toNat=10
  ·simp only[if_pos (show(c.toNat:Int)=10 by omega),if_pos hz];exact two [92,110] (by unfold escB;rw[if_neg h1,if_neg h2,if_pos h3]) (by simp)
  simp only[if_neg (show ¬((c.toNat:Int)=10)by omega)];by_cases h4:c.toNat=9
  ·simp only[if_pos (show(c.toNat:Int)=9 by omega),if_pos hz];exact two [92,116] (by unfold escB;rw[if_neg h1,if_neg h2,if_neg h3,if_pos h4]) (by simp)
  simp only[if_neg (show ¬((c.toNat:Int)=9)by omega)];have ee:s.extract i (i+1)=ofL [c]:=by
   refine ba_ext ?_;rw[ByteArray.data_extract,Array.toList_extract,List.extract_eq_take_drop,hd,Nat.add_sub_cancel_left];rfl
  simp only[if_pos (show(i:Int)≤((i+1:Nat):Int)by omega),if_pos (show((i+1:Nat):Int)≤(s.size:Int)by omega),Int.toNat_natCast,ee,if_pos (show(ofL acc).size+(ofL [c]).size≤9223372036854775807 by rw[ofL_size,ofL_size];simp;omega)];exact two [c] (by unfold escB;rw[if_neg h1,if_neg h2,if_neg h3,if_neg h4]) (by simp)
theorem rescaped_ev (s:ByteArray) (hs:s.size≤4096):Ev (fun k=>legationref01_escaped.f k s) (ofL (esc s.data.toList)):=by
 unfold legationref01_escaped.f;exact rescaped_loop s hs _ 0 [] rfl (by omega) (by simp)
theorem rtext_ev (k0:Int) (a b c:ByteArray) (h:okTm (TT k0 a b c)=true):Ev (fun k=>legationref01_Text.f k k0 a b c) (ofL (ttext (TT k0 a b c))):=by
 unfold legationref01_Text.f;by_cases k2:k0=2
 ·subst k2;obtain⟨h1,h2,h3⟩:=okTm_two h rfl;have l2:=okText_len h1;rw[show(TT 2 a b c).x=a.data.toList from rfl,size_toList]at l2;simp only[tl,if_true,if_neg (show ¬((2:Int)=1)by decide),if_neg (show ¬((2:Int)=3)by decide),if_neg (show ¬((2:Int)=4)by decide)];refine Ev.bind (rescaped_ev a l2) ?_;have lq:=esc_len a.data.toList;rw[size_toList]at lq;have z0:(ofL (esc a.data.toList)).size≤8192:=(by rw[ofL_size];omega);have z1:((⟨#[34]⟩:ByteArray)++ofL (esc a.data.toList)).size=1+(ofL (esc a.data.toList)).size:=(by rw[ByteArray.size_append];rfl);have z2:(((⟨#[34]⟩:ByteArray)++ofL (esc a.data.toList))++(⟨#[34]⟩:ByteArray)).size=1+(ofL (esc a.data.toList)).size+1:=(by rw[ByteArray.size_append,z1];rfl);rw[if_pos (by omega),if_pos (by rw[z1];omega)];have e:ttext (TT 2 a b c)=34::(esc a.data.toList++34::tail2 (TT 2 a b c)):=rfl;rw[e];by_cases hb:b.data.toList= []
  ·rw[if_pos hb];by_cases hc:c.data.toList= []
   ·rw[if_pos hc];rw[show tail2 (TT 2 a b c)= []by
     (show(if b.data.toList.isEmpty then _ else _)++(if c.data.toList.isEmpty then _ else _)=_);rw[hb,hc];rfl]
    rw[show ofL (34::(esc a.data.toList++ [34]))=((⟨#[34]⟩:ByteArray)++ofL (esc a.data.toList))++(⟨#[34]⟩:ByteArray)from ba_ext (by simp[app_data,ofL_toList])];exact Ev.now _
   rw[if_neg hc];have l4:c.size≤8:=by
    rcases h3 with h3|h3
    ·exact absurd h3 hc
    have:=okLang_len h3;rwa[show(TT 2 a b c).la=c.data.toList from rfl,size_toList]at this
   have z3:((((⟨#[34]⟩:ByteArray)++ofL (esc a.data.toList))++(⟨#[34]⟩:ByteArray))++(⟨#[64]⟩:ByteArray)).size=1+(ofL (esc a.data.toList)).size+1+1:=(by rw[ByteArray.size_append,z2];rfl);rw[if_pos (by rw[z2];omega),if_pos (by rw[z3];omega)];rw[show tail2 (TT 2 a b c)=64::c.data.toList by
    (show(if b.data.toList.isEmpty then _ else _)++(if c.data.toList.isEmpty then _ else _)=_);rw[hb,ne_empty hc];rfl]
   rw[show ofL (34::(esc a.data.toList++34::64::c.data.toList))=((((⟨#[34]⟩:ByteArray)++ofL (esc a.data.toList))++(⟨#[34]⟩:ByteArray))++(⟨#[64]⟩:ByteArray))++c from ba_ext (by simp[app_data,ofL_toList])];exact Ev.now _
  rw[if_neg hb];obtain⟨h2,hc⟩:okIri b.data.toList=true∧c.data.toList= []:=by
   rcases h2 with h2|h2
   ·exact absurd h2 hb
   exact h2
  have l3:=(okIri_len h2).1;rw[size_toList]at l3;have z3:((((⟨#[34]⟩:ByteArray)++ofL (esc a.data.toList))++(⟨#[34]⟩:ByteArray))++(⟨#[94,94,60]⟩:ByteArray)).size=1+(ofL (esc a.data.toList)).size+1+3:=(by rw[ByteArray.size_append,z2];rfl);have z4:(((((⟨#[34]⟩:ByteArray)++ofL (esc a.data.toList))++(⟨#[34]⟩:ByteArray))++(⟨#[94,94,60]⟩:ByteArray))++b).size=1+(ofL (esc a.data.toList)).size+1+3+b.size:=(by rw[ByteArray.size_append,z3]);rw[if_pos (by rw[z2];omega),if_pos (by rw[z3];omega),if_pos (by rw[z4];omega)];rw[show tail2 (TT 2 a b c)=94::94::60::(b.data.toList++ [62])by
   (show(if b.data.toList.isEmpty then _ else _)++(if c.data.toList.isEmpty then _ else _)=_);rw[hc,ne_empty hb];(show _++ []=_);rw[List.append_nil];rfl]
  rw[show ofL (34::(esc a.data.toList++34::94::94::60::(b.data.toList++ [62])))=(((((⟨#[34]⟩:ByteArray)++ofL (esc a.data.toList))++(⟨#[34]⟩:ByteArray))++(⟨#[94,94,60]⟩:ByteArray))++b)++(⟨#[62]⟩:ByteArray)from ba_ext (by simp[app_data,ofL_toList])];exact Ev.now _
 obtain⟨_,_,hl,hk⟩:=okTm_other h k2;rw[show(TT k0 a b c).x=a.data.toList from rfl,size_toList]at hl;by_cases k1:k0=1
 ·simp only[if_pos k1];have z1:((⟨#[60]⟩:ByteArray)++a).size=1+a.size:=(by rw[ByteArray.size_append];rfl);rw[if_pos (by omega),if_pos (by rw[z1];omega)];rw[show ttext (TT k0 a b c)=60::(a.data.toList++ [62])by simp[ttext,TT,k1]];rw[show ofL (60::(a.data.toList++ [62]))=((⟨#[60]⟩:ByteArray)++a)++(⟨#[62]⟩:ByteArray)from ba_ext (by simp[app_data,ofL_toList])];exact Ev.now _
 simp only[if_neg k1];by_cases k3:k0=3
 ·simp only[if_pos k3];rw[if_pos (by omega)];rw[show ttext (TT k0 a b c)=95::58::a.data.toList by simp[ttext,TT,k3]];rw[show ofL (95::58::a.data.toList)=(⟨#[95,58]⟩:ByteArray)++a from ba_ext (by simp[app_data,ofL_toList])];exact Ev.now _
 simp only[if_neg k3];by_cases k4:k0=4
 ·simp only[if_pos k4];rw[if_pos (by omega)];rw[show ttext (TT k0 a b c)=63::a.data.toList by simp[ttext,TT,k4]];rw[show ofL (63::a.data.toList)=(⟨#[63]⟩:ByteArray)++a from ba_ext (by simp[app_data,ofL_toList])];exact Ev.now _
 simp only[if_neg k4,if_neg k2];rw[show ttext (TT k0 a b c)= []by simp[ttext,TT,k1,k2,k3,k4]];exact Ev.now _
/-! ### UNDEF -/
def undefT : List UInt8 := [85, 78, 68, 69, 70]
def ofT (t : Tm) : List UInt8 := if t.k = 0 then undefT else ttext t
theorem ttext_ne {t:Tm} (h:okTm t=true):(ttext t= []) ↔ t.k=0:=by
 by_cases k2:t.k=2
 ·unfold ttext;rw[if_neg (by omega),if_neg (by omega),if_neg (by omega),if_pos k2];exact⟨fun h=>by simp at h,fun h=>by omega⟩
 obtain⟨_,_,_,_,_,_,hk⟩:=okTm_other h k2;unfold ttext;rcases hk with hk|hk|hk|hk<;>simp[hk]
theorem ofT_ne {t:Tm} (h:okTm t=true):ofT t≠ []:=by
 unfold ofT;by_cases k0:t.k=0
 ·rw[if_pos k0];decide
 rw[if_neg k0];exact fun e=>k0 ((ttext_ne h).1 e)
theorem ofT_len {t:Tm} (h:okTm t=true):(ofT t).length≤20000:=by
 unfold ofT;split
 ·decide
 exact ttext_len h
theorem of_ev (t:S50) (h:okTm (T t)=true):Ev (fun k=>print_of.f k t.f0 t.f1 t.f2 t.f3) (ofL (ofT (T t))):=by
 unfold print_of.f;refine Ev.bind (text_ev t.f0 t.f1 t.f2 t.f3 h) ?_;have he:(ofL (ttext (TT t.f0 t.f1 t.f2 t.f3))).toList=ttext (T t):=(by rw[tl,ofL_toList];rfl);simp only[he];by_cases k0:t.f0=0
 ·rw[if_pos ((ttext_ne h).2 k0),show ofT (T t)=undefT from if_pos k0];exact Ev.now _
 rw[if_neg (fun e=>k0 ((ttext_ne h).1 e)),show ofT (T t)=ttext (T t)from if_neg k0];exact Ev.now _
theorem rof_ev (t:S50) (h:okTm (T t)=true):Ev (fun k=>legationref09_of.f k t.f0 t.f1 t.f2 t.f3) (ofL (ofT (T t))):=by
 unfold legationref09_of.f;by_cases k0:t.f0=0
 ·simp only[if_pos k0];rw[show ofT (T t)=undefT from if_pos k0];exact Ev.now _
 simp only[if_neg k0];refine Ev.bind (rtext_ev t.f0 t.f1 t.f2 t.f3 h) ?_;rw[show ofT (T t)=ttext (T t)from if_neg k0];exact Ev.now _
/-! ### words -/
/-- texts with a blank between any two, those that are empty left out -/
def wordsP (xs : List ByteArray) : List UInt8 := Lib.join ((xs.filter fun s => !(s.data.toList == [])).map (·.data.toList)) [32]
theorem words_loop (x:List ByteArray) (hx:x.length≤100) (hl:(wordsP x).length≤140737488355328): ∀ (r:List ByteArray) (i:Nat),x.drop i=r→
 Ev (fun k=>print_words.l0 k ((x.take i).filter fun s=> !(s.data.toList== [])) x (x.length:Int) (i:Int)) (ofL (wordsP x)):=by
 intro r;induction r with
 |nil=>
  intro i hd;have hi:=len_of_drop hd;refine Ev.step (fun k=>by rw[print_words.l0]) ?_;simp only[if_neg (show ¬((i:Int)<(x.length:Int))by omega)];rw[List.take_of_length_le hi];refine Ev.bind (a:=ofL (wordsP x)) ?_ (Ev.now _);have hf:(x.filter fun s=> !(s.data.toList== [])).length≤x.length:=List.length_filter_le _ _;have hj:strings_Join.f (x.filter fun s=> !(s.data.toList== [])) (⟨#[32]⟩:ByteArray)=some (ofL (wordsP x)):=if_pos ⟨Nat.le_trans hf (by omega),hl⟩;rw[hj];exact Ev.now _
 |cons a r ih=>
  intro i hd;obtain⟨hg,hi,hr,ht⟩:=get_of_drop hd ByteArray.empty;have hrd:rdOf ByteArray.empty x (i:Int)=a:=hg;have h:=ih (i+1) hr;rw[ht,List.filter_append]at h;refine Ev.step (fun k=>by rw[print_words.l0]) ?_;simp only[if_pos (show(i:Int)<(x.length:Int)by omega),if_pos (show(0:Int)≤(i:Int)by omega),hrd,tl,wrap_succ (show i<9223372036854775807 by omega)];by_cases ha:a.data.toList= []
  ·simp only[if_pos ha];have hb:(!(a.data.toList==([]:List UInt8)))=false:=(by rw[ha];rfl);rw[show([a].filter fun s=> !(s.data.toList== []))= []by simp only[List.filter,hb],List.append_nil]at h;exact h
  have hf:((x.take i).filter fun s=> !(s.data.toList== [])).length≤x.length:=Nat.le_trans (List.length_filter_le _ _) (by rw[List.length_take];omega);simp only[if_neg ha,if_pos (show((x.take i).filter fun s=> !(s.data.toList== [])).length<8796093022208 by omega)];have hb:(!(a.data.toList==([]:List UInt8)))=true:=(by rw[beq_eq_false_iff_ne.mpr ha];rfl);rw[show([a].filter fun s=> !(s.data.toList== []))= [a]by simp only[List.filter,hb]]at h;exact h
theorem words_ev (x:List ByteArray) (hx:x.length≤100) (hl:(wordsP x).length≤140737488355328):Ev (fun k=>print_words.f k x) (ofL (wordsP x)):=words_loop x hx hl x 0 rfl
end Go.Proofs.Ytcfoebkbahpnaaa.L
