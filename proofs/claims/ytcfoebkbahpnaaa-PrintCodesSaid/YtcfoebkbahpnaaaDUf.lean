import Derived.Test.YtcfoebkbahpnaaaDUd
/- What formulas' texts come to, part by part: the stacks of the program's and of the reference's loop. -/
namespace Go.Proofs.Ytcfoebkbahpnaaa.L
open Go.RowKit Go.Lib Go.Proofs.Ytcfoebkbahpnaaa Go.Proofs.YtcfoebkbahpnaaaW.PrintWords Go.Proofs.YtcfoebkbahpnaaaW.PrintLast
set_option linter.unusedVariables false
set_option linter.unusedSimpArgs false

def formP : List S112 → List (List UInt8) → List (List UInt8)
  | [], l => l
  | p :: r, l => formP r (l.take (l.length - (fneeds p.f0 p.f3).toNat) ++ [partT p (l.drop (l.length - (fneeds p.f0 p.f3).toNat))])
/-- what a step of the stack keeps -/
theorem form_step {p:S112} {r:List S112} {l:List (List UInt8)} (hc:fchk (l.length:Int) (p::r)=0):
 partOK p=true∧ ∃ N:Nat,fneeds p.f0 p.f3=(N:Int)∧N≤l.length∧N≤16∧(l.drop (l.length - N)).length=N∧fchk ((l.take (l.length - N)++ [partT p (l.drop (l.length - N))]).length:Int) r=0∧formP (p::r) l=formP r (l.take (l.length - N)++ [partT p (l.drop (l.length - N))])∧lsz (l.take (l.length - N)++ [partT p (l.drop (l.length - N))])≤lsz l+20100∧lsz (l.drop (l.length - N))≤lsz l:=by
 unfold fchk at hc;cases hp:partOK p with
 |false=>rw[hp]at hc;simp at hc
 |true=>
  rw[hp]at hc;simp only[if_true]at hc;have hk:=part_kind hp;have hle:=(fneeds_le p.f0 p.f3).2;by_cases hn:fneeds p.f0 p.f3>(l.length:Int)
  ·rw[if_pos hn]at hc;cases hc
  rw[if_neg hn]at hc;obtain⟨N,hN⟩: ∃ N:Nat,fneeds p.f0 p.f3=(N:Int):=⟨(fneeds p.f0 p.f3).toNat,by omega⟩;have hd:(l.drop (l.length - N)).length=N:=(by rw[List.length_drop];omega);have hsp:lsz (l.take (l.length - N))+lsz (l.drop (l.length - N))=lsz l:=(by rw[← lsz_append,List.take_append_drop]);have hT:=partT_len hp (l:=l.drop (l.length - N)) (by omega);refine⟨rfl,N,hN,by omega,by omega,hd,?_,?_,?_,by omega⟩
  ·rw[List.length_append,List.length_take,List.length_singleton];rw[hN]at hc;rw[show((min (l.length - N) l.length+1:Nat):Int)=(l.length:Int)+(1 - (N:Int))by omega];exact hc
  ·rw[formP,hN,Int.toNat_natCast]
  rw[lsz_append];simp only[lsz,List.map_cons,List.map_nil,List.sum_cons,List.sum_nil]at hT hsp ⊢;omega
theorem form_go: ∀ (r:List S112) (l:List (List UInt8)),fchk (l.length:Int) r=0→lsz l+20100*r.length≤90000000→
 Ev (fun k=>formTGo k r (l.map ofL)) ((formP r l).map ofL)
 | [],l,_,_=>by
  simp only[formTGo,formP];exact Ev.now _
 |p::r,l,hc,hs=>by
  obtain⟨hp,N,hN,hle,h16,hd,hc2,he,hz,hz2⟩:=form_step hc;simp only[List.length_cons]at hs;simp only[formTGo];refine Ev.bind (fneeds_ev _ _ _ _ _ _ _) ?_;rw[hN,List.length_map,Int.toNat_natCast,← List.map_drop,← List.map_take];refine Ev.no (by omega) ?_;refine Ev.bind (ptext_ev hp _ (by rw[hd,hN]) (by omega)) ?_;rw[he];have:=form_go r _ hc2 (by omega);rw[List.map_append]at this;exact this
theorem form_one: ∀ (r:List S112) (l:List (List UInt8)),fchk (l.length:Int) r=0→(formP r l).length=1∧lsz (formP r l)≤lsz l+20100*r.length∧((∀ x ∈ l,x≠ [])→ ∀ x ∈ formP r l,x≠ [])
 | [],l,hc=>by
  unfold fchk at hc;simp only[formP];refine⟨?_,by simp,fun h=>h⟩;by_cases h:(l.length:Int)=1
  ·omega
  rw[if_neg h]at hc;cases hc
 |p::r,l,hc=>by
  obtain⟨hp,N,hN,hle,h16,hd,hc2,he,hz,hz2⟩:=form_step hc;obtain⟨h1,h2,h3⟩:=form_one r _ hc2;rw[he];refine⟨h1,by simp only[List.length_cons];omega,fun h=>h3 (fun x hx=>?_)⟩;rcases List.mem_append.1 hx with hx|hx
  ·exact h x (List.mem_of_mem_take hx)
  rw[List.mem_singleton]at hx;rw[hx];exact partT_ne hp _
/-- a right formula's text -/
def formT (x : List S112) : List UInt8 := (formP x []).getD 0 []
theorem fcheck_ok {x:List S112} (h:fcheck x=0):x.length≤256∧fchk (([]:List (List UInt8)).length:Int) x=0:=by
 unfold fcheck at h;by_cases hl:x.length>256
 ·rw[if_pos hl]at h;cases h
 rw[if_neg hl]at h;exact⟨by omega,h⟩
theorem formT_is {x:List S112} (h:fcheck x=0):formP x []= [formT x]∧formT x≠ []∧(formT x).length≤5145600:=by
 obtain⟨hl,hc⟩:=fcheck_ok h;obtain⟨h1,h2,h3⟩:=form_one x [] hc;unfold formT;match hq:formP x []with
 | []=>rw[hq]at h1;cases h1
 | [a]=>
  rw[hq]at h2 h3;refine⟨rfl,h3 (fun x hx=>by cases hx) a (List.mem_cons_self ..),?_⟩;simp[lsz]at h2;(show a.length≤_);omega
 |a::b::r=>rw[hq]at h1;simp at h1
theorem pform_ev (x:List S112):Ev (fun k=>formula_Text.f k x) (if fcheck x=0 then(ofL (formT x),0)else(⟨#[]⟩,fcheck x)):=by
 unfold formula_Text.f;refine Ev.bind (fcheck_ev x) ?_;by_cases h:fcheck x=0
 ·obtain⟨hl,hc⟩:=fcheck_ok h;rw[if_pos h];refine Ev.yes h (Ev.yes hl ?_);have hg:=form_go x [] hc (by simp[lsz];omega);rw[(formT_is h).1]at hg;refine Ev.bind hg ?_;refine Ev.yes (by simp) (Ev.nowE ?_);rfl
 rw[if_neg h];exact Ev.no h (Ev.now _)
theorem rform_loop (x:List S112) (hx:x.length≤256): ∀ (r:List S112) (i:Nat) (l:List (List UInt8)),x.drop i=r→fchk (l.length:Int) r=0→l.length≤i→lsz l+20100*r.length≤90000000→
 Ev (fun k=>legationref06_Text.l0 k x (l.map ofL) (i:Int)) (ofL ((formP r l).getD 0 []))
 | [],i,l,hd,hc,hli,_=>by
  have hi:=len_of_drop hd;have h1:=(form_one [] l hc).1;simp only[formP]at h1 ⊢;refine Ev.step (fun k=>by rw[legationref06_Text.l0]) ?_;refine Ev.no (by omega) (Ev.yes (by rw[List.length_map];omega) (Ev.nowE ?_));exact rd_ofL (i:=0) (by omega)
 |p::r,i,l,hd,hc,hli,hs=>by
  obtain⟨hg,hi,hr,ht⟩:=get_of_drop hd z112;have hrd:rd_T112 x (i:Int)=p:=hg;obtain⟨hp,N,hN,hle,h16,hdl,hc2,he,hz,hz2⟩:=form_step hc;simp only[List.length_cons]at hs;refine Ev.step (fun k=>by rw[legationref06_Text.l0]) ?_;simp only[hrd];refine Ev.yes (by omega) (Ev.yes (by omega) ?_);refine Ev.bind (rfneeds_ev _ _ _ _ _ _ _) ?_;have hw:wrap64 (((l.map ofL).length:Int) - fneeds p.f0 p.f3)=((l.length - N:Nat):Int):=by
   rw[hN,List.length_map];unfold wrap64;omega
  rw[hw,List.length_map,Int.toNat_natCast,← List.map_drop,← List.map_take];refine Ev.yes (by omega) (Ev.yes (by omega) ?_);refine Ev.bind (rtextp_ev hp _ (by rw[hdl,hN]) (by omega)) ?_;simp only[Option.bind_some,List.nil_append,List.length_nil,List.length_map];have htl:(l.take (l.length - N)).length≤256:=(by rw[List.length_take];omega);refine Ev.yes (by omega) (Ev.yes (by omega) ?_);rw[wrap_succ (by omega),he];have:=rform_loop x hx r (i+1) _ hr hc2 (by rw[List.length_append,List.length_take,List.length_singleton];omega) (by omega);rw[List.map_append]at this;exact this
theorem rform_ev {x:List S112} (h:fcheck x=0):Ev (fun k=>legationref06_Text.f k x) (ofL (formT x)):=by
 obtain⟨hl,hc⟩:=fcheck_ok h;exact rform_loop x hl x 0 [] rfl hc (Nat.le_refl _) (by simp[lsz];omega)
end Go.Proofs.Ytcfoebkbahpnaaa.L

/- What the texts of operations come to: the program's, and the reference's. -/
namespace Go.Proofs.Ytcfoebkbahpnaaa.L
open Go.RowKit Go.Lib Go.Proofs.Ytcfoebkbahpnaaa Go.Proofs.YtcfoebkbahpnaaaW.PrintWords Go.Proofs.YtcfoebkbahpnaaaW.PrintLast
set_option linter.unusedVariables false
set_option linter.unusedSimpArgs false

def sFilter : List UInt8 := [32, 70, 73, 76, 84, 69, 82, 32, 40, 32]
def sOpt : List UInt8 := [32, 79, 80, 84, 73, 79, 78, 65, 76, 32, 123, 32]
def opT (o : S45) (l : List (List UInt8)) : List UInt8 :=
  if o.f0 = 1 then basT o.f1 else if o.f0 = 2 then tabT o.f2.f0 o.f2.f1
  else if o.f0 = 3 then [123, 32] ++ l.getD 0 [] ++ [32] ++ l.getD 1 [] ++ [32, 125]
  else if o.f0 = 4 then [123, 32] ++ l.getD 0 [] ++ [32, 85, 78, 73, 79, 78, 32] ++ l.getD 1 [] ++ [32, 125]
  else if o.f0 = 6 then [123, 32] ++ l.getD 0 [] ++ [32, 77, 73, 78, 85, 83, 32] ++ l.getD 1 [] ++ [32, 125]
  else if o.f0 = 5 then (if o.f3 = [] then [123, 32] ++ l.getD 0 [] ++ sOpt ++ l.getD 1 [] ++ [32, 125, 32, 125] else [123, 32] ++ l.getD 0 [] ++ sOpt ++ l.getD 1 [] ++ sFilter ++ formT o.f3 ++ [32, 41, 32, 125, 32, 125])
  else if o.f0 = 7 then [123, 32] ++ l.getD 0 [] ++ sFilter ++ formT o.f3 ++ [32, 41, 32, 125]
  else if o.f0 = 8 then [123, 32] ++ l.getD 0 [] ++ [32, 66, 73, 78, 68, 32, 40, 32] ++ formT o.f3 ++ [32, 65, 83, 32, 63] ++ o.f4.data.toList ++ [32, 41, 32, 125]
  else [123, 32, 83, 69, 82, 86, 73, 67, 69, 32] ++ (if o.f5 = true then [83, 73, 76, 69, 78, 84, 32] else []) ++ 60 :: o.f4.data.toList ++ [62, 32] ++ l.getD 0 [] ++ [32, 125]
/-- what a right operation's text hangs on -/
structure OpF (o : S45) : Prop where
  k : 1 ≤ o.f0 ∧ o.f0 ≤ 9
  a : o.f0 = 1 → o.f1.length ≤ 32 ∧ ∀ t ∈ o.f1, tri3 t
  b : o.f0 = 2 → tabOK o.f2.f0 o.f2.f1
  e : o.f0 = 5 → o.f3 = [] ∨ (o.f3 ≠ [] ∧ fcheck o.f3 = 0)
  f : o.f0 = 7 ∨ o.f0 = 8 → fcheck o.f3 = 0
  n : o.f0 = 8 ∨ o.f0 = 9 → o.f4.size ≤ 4096
theorem opF_of {o:S45} (h:opOK o=true):OpF o:=by
 have h':=h;unfold opOK at h';simp only[Bool.and_eq_true]at h';obtain⟨_,_,hf,hl⟩:=h';have hk:1≤o.f0∧o.f0≤9:=by
  have hn:=opOK_needs h;unfold opNeeds at hn;by_cases c1:o.f0=1∨o.f0=2
  ·omega
  rw[if_neg c1]at hn;by_cases c2:7≤o.f0∧o.f0≤9
  ·omega
  rw[if_neg c2]at hn;by_cases c3:3≤o.f0∧o.f0≤6
  ·omega
  rw[if_neg c3]at hn;omega
 have key: ∀ l p,nmOK p l=true→ ∀ s ∈ l,okName s=true:=by
  intro l;induction l with
  |nil=>intro p _ s hs;cases hs
  |cons v r ih=>
   intro p hp s hs;simp only[nmOK,Bool.and_eq_true]at hp;rcases List.mem_cons.1 hs with rfl|hs
   ·exact hp.1.1
   exact ih _ hp.2 s hs
 refine⟨hk,fun h1=>⟨(opOK_basic h h1).1,fun t ht=>?_⟩,fun h2=>?_,fun h5=>?_,fun h78=>?_,fun h89=>?_⟩
 ·have:=(opOK_basic h h1).2 t ht;unfold patOK triOK at this;simp only[Bool.and_eq_true]at this;exact⟨this.1.1.1.1.1.1,this.1.1.1.1.1.2,this.1.1.1.1.2⟩
 ·obtain⟨hv,hr,hln⟩:=opOK_table h h2;unfold lastOK at hl;rw[if_neg (by omega),if_pos h2]at hl;unfold tabV at hl;simp only[Bool.and_eq_true,List.all_eq_true]at hl;refine⟨hv,hr,fun s hs=>?_,hln,fun row hrow t ht=>?_⟩
  ·have:=(okName_len (key _ _ hl.1.2 s.data.toList (List.mem_map.2 ⟨s,hs,rfl⟩))).1;rwa[size_toList]at this
  have:=hl.2 row hrow;unfold rowV cellV at this;simp only[Bool.and_eq_true,List.all_eq_true]at this;exact(this.2 t ht).1.1
 ·unfold formOK formF at hf;by_cases he:o.f3= []
  ·exact .inl he
  refine .inr ⟨he,?_⟩;have hp:0<o.f3.length:=List.length_pos_iff.2 he;rw[show(o.f0==5 && decide (0<o.f3.length))=true by rw[beq_iff_eq.mpr h5,decide_eq_true hp];rfl,Bool.or_true]at hf;simpa using hf
 ·unfold formOK formF at hf;rw[show(o.f0==7||o.f0==8)=true by rcases h78 with h_|h_<;>simp[h_],Bool.true_or]at hf;simpa using hf
 unfold lastOK at hl;rw[if_neg (by omega),if_neg (by omega)]at hl;by_cases h8:o.f0=8
 ·rw[if_pos h8]at hl;have:=(okName_len hl).1;rw[size_toList]at this;omega
 rw[if_neg h8,if_pos (by omega),okTm_iri]at hl;have:=(okIri_len hl).1;rwa[size_toList]at this
theorem opT_ne {o:S45} (l:List (List UInt8)):opT o l≠ []:=by
 unfold opT;(repeat' split);all_goals simp[basT,basA,tabT,tabA,vrsA]
theorem opT_len {o:S45} (h:OpF o) (l:List (List UInt8)):(opT o l).length≤lsz l+50000000:=by
 have hk:=h.k;have hg:=get2_len l;(have hf:fcheck o.f3=0→(formT o.f3).length≤5145600:=fun h=>(formT_is h).2.2);have hs:o.f4.data.toList.length=o.f4.size:=size_toList _;unfold opT;by_cases h1:o.f0=1
 ·rw[if_pos h1];have:=basA_len (h.a h1).2;have:=(h.a h1).1;simp only[basT,List.length_append,List.length_cons,List.length_nil];omega
 rw[if_neg h1];by_cases h2:o.f0=2
 ·rw[if_pos h2];have:=tabA_len (h.b h2) o.f2.f1.length;rw[List.take_length]at this;simp only[tabT,List.length_append,List.length_cons,List.length_nil];omega
 rw[if_neg h2];by_cases h3:o.f0=3
 ·rw[if_pos h3];simp only[List.length_append,List.length_cons,List.length_nil];omega
 rw[if_neg h3];by_cases h4:o.f0=4
 ·rw[if_pos h4];simp only[List.length_append,List.length_cons,List.length_nil];omega
 rw[if_neg h4];by_cases h6:o.f0=6
 ·rw[if_pos h6];simp only[List.length_append,List.length_cons,List.length_nil];omega
 rw[if_neg h6];by_cases h5:o.f0=5
 ·rw[if_pos h5];rcases h.e h5 with he|⟨he,hc⟩
  ·rw[if_pos he];simp only[sOpt,List.length_append,List.length_cons,List.length_nil];omega
  rw[if_neg he];have:=hf hc;simp only[sOpt,sFilter,List.length_append,List.length_cons,List.length_nil];omega
 rw[if_neg h5];by_cases h7:o.f0=7
 ·rw[if_pos h7];have:=hf (h.f (.inl h7));simp only[sFilter,List.length_append,List.length_cons,List.length_nil];omega
 rw[if_neg h7];by_cases h8:o.f0=8
 ·rw[if_pos h8];have:=hf (h.f (.inr h8));have:=h.n (.inl h8);simp only[List.length_append,List.length_cons,List.length_nil];omega
 rw[if_neg h8];have:=h.n (.inr (by omega));split;all_goals
  simp only[List.length_append,List.length_cons,List.length_nil]
  omega
/-! ### the program's -/
theorem wv {c:List UInt8} (xs:List (List UInt8)) (hne: ∀ x ∈ xs,x≠ []) (e:Lib.join xs [32]=c) (hx:xs.length≤100) (hl:c.length≤140737488355328):Ev (fun k=>(print_words.f k (xs.map ofL)).bind fun t=>some t) (ofL c):=by
 subst e;exact Ev.bind (wordsT_ev xs hx hne hl) (Ev.now _)
theorem wv0 {c:List UInt8} {a b d e:List UInt8} (ha:a≠ []) (hb:b≠ []) (hd:d≠ []) (he:e≠ []) (h:Lib.join [a,b,d,e] [32]=c) (hl:c.length≤140737488355328):Ev (fun k=>(print_words.f k [ofL a,(⟨#[]⟩:ByteArray),ofL b,ofL d,ofL e]).bind fun t=>some t) (ofL c):=by
 have hw:wordsP [ofL a,(⟨#[]⟩:ByteArray),ofL b,ofL d,ofL e]=c:=by
  rw[← h,← wordsP_all (xs:= [a,b,d,e]) (by simp[ha,hb,hd,he])];have h1:(!((ofL a).data.toList==([]:List UInt8)))=true:=(by rw[ofL_toList,beq_eq_false_iff_ne.mpr ha];rfl);have h2:(!((⟨#[]⟩:ByteArray).data.toList==([]:List UInt8)))=false:=rfl;simp only[wordsP,List.map_cons,List.map_nil,List.filter,h1,h2]
 have:=words_ev [ofL a,(⟨#[]⟩:ByteArray),ofL b,ofL d,ofL e] (by simp) (by rw[hw];exact hl);rw[hw]at this;exact Ev.bind this (Ev.now _)
theorem optext_ev {o:S45} (h:OpF o) (l:List (List UInt8)) (hl:(l.length:Int)=opNeeds o.f0) (hne: ∀ x ∈ l,x≠ []) (hs:lsz l≤100000000000):
 Ev (fun k=>print_text.f k o.f0 o.f1 o.f2.f0 o.f2.f1 o.f3 o.f4 o.f5 (l.map ofL)) (ofL (opT o l)):=by
 have hk:=h.k;have hT:=opT_len h l;have hsz:(opT o l).length≤140737488355328:=(by omega);unfold print_text.f;refine Ev.bind (pform_ev o.f3) ?_;have hnd:opNeeds o.f0=(if o.f0=1∨o.f0=2 then 0 else if 7≤o.f0∧o.f0≤9 then 1 else if 3≤o.f0∧o.f0≤6 then 2 else -1):=rfl;by_cases h1:o.f0=1
 ·refine Ev.yes h1 ?_;rw[show opT o l=basT o.f1 from if_pos h1];exact Ev.bind (pbasic_ev _ (h.a h1).1 (h.a h1).2) (Ev.now _)
 refine Ev.no h1 ?_;by_cases h2:o.f0=2
 ·refine Ev.yes h2 ?_;rw[show opT o l=tabT o.f2.f0 o.f2.f1 by unfold opT;rw[if_neg h1,if_pos h2]];exact Ev.bind (ptable_ev (h.b h2)) (Ev.now _)
 refine Ev.no h2 ?_;rw[if_neg (by omega)]at hnd;have hl0:0<l.length:=by
  by_cases c:7≤o.f0∧o.f0≤9
  ·rw[if_pos c]at hnd;omega
  rw[if_neg c,if_pos (by omega)]at hnd;omega
 have hr0:rdOf ByteArray.empty (l.map ofL) 0=ofL (l.getD 0 []):=rd_ofL (i:=0) hl0;have n0:l.getD 0 [] ≠ []:=by
  rw[List.getD_eq_getElem?_getD,List.getElem?_eq_getElem hl0];exact hne _ (List.getElem_mem hl0)
 (have hl1:o.f0≤6→1<l.length:=fun c=>by rw[if_neg (by omega),if_pos (by omega)]at hnd;omega);(have hr1:o.f0≤6→rdOf ByteArray.empty (l.map ofL) 1=ofL (l.getD 1 []):=fun c=>rd_ofL (i:=1) (hl1 c));have n1:o.f0≤6→l.getD 1 [] ≠ []:=fun c=>by
  rw[List.getD_eq_getElem?_getD,List.getElem?_eq_getElem (hl1 c)];exact hne _ (List.getElem_mem (hl1 c))
 simp only[hr0,List.length_map];by_cases h3:o.f0=3
 ·have c:=hl1 (by omega);refine Ev.yes h3 (Ev.yes (by omega) (Ev.yes (by omega) ?_));rw[hr1 (by omega)];refine wv [[123],l.getD 0 [],l.getD 1 [],[125]] (by simp only[List.forall_mem_cons];exact⟨by decide,n0,n1 (by omega),by decide,fun _ h_=>by cases h_⟩) ?_ (by simp) hsz;unfold opT;rw[if_neg h1,if_neg h2,if_pos h3];simp only[Lib.join_cons,Lib.joinTail,List.map_cons,List.map_nil,List.flatten_cons,List.flatten_nil,List.append_assoc,List.cons_append,List.nil_append,List.append_nil]
 refine Ev.no h3 ?_;by_cases h4:o.f0=4
 ·have c:=hl1 (by omega);refine Ev.yes h4 (Ev.yes (by omega) (Ev.yes (by omega) ?_));rw[hr1 (by omega)];refine wv [[123],l.getD 0 [],[85,78,73,79,78],l.getD 1 [],[125]] (by simp only[List.forall_mem_cons];exact⟨by decide,n0,by decide,n1 (by omega),by decide,fun _ h_=>by cases h_⟩) ?_ (by simp) hsz;unfold opT;rw[if_neg h1,if_neg h2,if_neg h3,if_pos h4];simp only[Lib.join_cons,Lib.joinTail,List.map_cons,List.map_nil,List.flatten_cons,List.flatten_nil,List.append_assoc,List.cons_append,List.nil_append,List.append_nil]
 refine Ev.no h4 ?_;by_cases h6:o.f0=6
 ·have c:=hl1 (by omega);refine Ev.yes h6 (Ev.yes (by omega) (Ev.yes (by omega) ?_));rw[hr1 (by omega)];refine wv [[123],l.getD 0 [],[77,73,78,85,83],l.getD 1 [],[125]] (by simp only[List.forall_mem_cons];exact⟨by decide,n0,by decide,n1 (by omega),by decide,fun _ h_=>by cases h_⟩) ?_ (by simp) hsz;unfold opT;rw[if_neg h1,if_neg h2,if_neg h3,if_neg h4,if_pos h6];simp only[Lib.join_cons,Lib.joinTail,List.map_cons,List.map_nil,List.flatten_cons,List.flatten_nil,List.append_assoc,List.cons_append,List.nil_append,List.append_nil]
 refine Ev.no h6 ?_;by_cases h5:o.f0=5
 ·have c:=hl1 (by omega);refine Ev.yes h5 ?_;rcases h.e h5 with he|⟨he,hc⟩
  ·rw[he,show fcheck ([]:List S112)=2 from rfl,if_neg (by decide)];refine Ev.yes (by rw[tl]) (Ev.yes (by omega) (Ev.yes (by omega) ?_));rw[hr1 (by omega)];refine wv [[123],l.getD 0 [],[79,80,84,73,79,78,65,76,32,123],l.getD 1 [],[125,32,125]] (by simp only[List.forall_mem_cons];exact⟨by decide,n0,by decide,n1 (by omega),by decide,fun _ h_=>by cases h_⟩) ?_ (by simp) hsz;unfold opT;rw[if_neg h1,if_neg h2,if_neg h3,if_neg h4,if_neg h6,if_pos h5,if_pos he];simp only[sOpt,Lib.join_cons,Lib.joinTail,List.map_cons,List.map_nil,List.flatten_cons,List.flatten_nil,List.append_assoc,List.cons_append,List.nil_append,List.append_nil]
  obtain⟨_,hfn,_⟩:=formT_is hc;rw[if_pos hc];refine Ev.no (by rw[tl,ofL_toList];exact hfn) (Ev.yes (by omega) (Ev.yes (by omega) ?_));rw[hr1 (by omega)];refine wv [[123],l.getD 0 [],[79,80,84,73,79,78,65,76,32,123],l.getD 1 [],[70,73,76,84,69,82,32,40],formT o.f3,[41,32,125,32,125]] (by simp only[List.forall_mem_cons];exact⟨by decide,n0,by decide,n1 (by omega),by decide,hfn,by decide,fun _ h_=>by cases h_⟩) ?_ (by simp) hsz;unfold opT;rw[if_neg h1,if_neg h2,if_neg h3,if_neg h4,if_neg h6,if_pos h5,if_neg he];simp only[sOpt,sFilter,Lib.join_cons,Lib.joinTail,List.map_cons,List.map_nil,List.flatten_cons,List.flatten_nil,List.append_assoc,List.cons_append,List.nil_append,List.append_nil]
 refine Ev.no h5 ?_;by_cases h7:o.f0=7
 ·have hc:=h.f (.inl h7);obtain⟨_,hfn,_⟩:=formT_is hc;rw[if_pos hc];refine Ev.yes h7 (Ev.yes (by omega) ?_);refine wv [[123],l.getD 0 [],[70,73,76,84,69,82,32,40],formT o.f3,[41,32,125]] (by simp only[List.forall_mem_cons];exact⟨by decide,n0,by decide,hfn,by decide,fun _ h_=>by cases h_⟩) ?_ (by simp) hsz;unfold opT;rw[if_neg h1,if_neg h2,if_neg h3,if_neg h4,if_neg h6,if_neg h5,if_pos h7];simp only[sFilter,Lib.join_cons,Lib.joinTail,List.map_cons,List.map_nil,List.flatten_cons,List.flatten_nil,List.append_assoc,List.cons_append,List.nil_append,List.append_nil]
 refine Ev.no h7 ?_;by_cases h8:o.f0=8
 ·have hc:=h.f (.inr h8);have hnm:=h.n (.inl h8);obtain⟨_,hfn,_⟩:=formT_is hc;rw[if_pos hc];refine Ev.yes h8 (Ev.yes (by omega) (Ev.yes (by omega) ?_));rw[show(⟨#[63]⟩:ByteArray)++o.f4=ofL (63::o.f4.data.toList)from ba_ext (by simp[app_data,ofL_toList])];refine wv [[123],l.getD 0 [],[66,73,78,68,32,40],formT o.f3,[65,83],63::o.f4.data.toList,[41,32,125]] (by simp only[List.forall_mem_cons];exact⟨by decide,n0,by decide,hfn,by decide,by simp,by decide,fun _ h_=>by cases h_⟩) ?_ (by simp) hsz;unfold opT;rw[if_neg h1,if_neg h2,if_neg h3,if_neg h4,if_neg h6,if_neg h5,if_neg h7,if_pos h8];simp only[Lib.join_cons,Lib.joinTail,List.map_cons,List.map_nil,List.flatten_cons,List.flatten_nil,List.append_assoc,List.cons_append,List.nil_append,List.append_nil]
 refine Ev.no h8 ?_;have hnm:=h.n (.inr (by omega));have hq:((⟨#[60]⟩:ByteArray)++o.f4)++(⟨#[62]⟩:ByteArray)=ofL (60::(o.f4.data.toList++ [62])):=ba_ext (by simp[app_data,ofL_toList]);by_cases h9:o.f5=true
 ·refine Ev.yes h9 (Ev.yes (by omega) (Ev.yes (by simp only[ByteArray.size_append,bsz,List.size_toArray,List.length_cons,List.length_nil];omega) (Ev.yes (by omega) ?_)));rw[hq];refine wv [[123,32,83,69,82,86,73,67,69],[83,73,76,69,78,84],60::(o.f4.data.toList++ [62]),l.getD 0 [],[125]] (by simp only[List.forall_mem_cons];exact⟨by decide,by decide,by simp,n0,by decide,fun _ h_=>by cases h_⟩) ?_ (by simp) hsz;unfold opT;rw[if_neg h1,if_neg h2,if_neg h3,if_neg h4,if_neg h6,if_neg h5,if_neg h7,if_neg h8,if_pos h9];simp only[Lib.join_cons,Lib.joinTail,List.map_cons,List.map_nil,List.flatten_cons,List.flatten_nil,List.append_assoc,List.cons_append,List.nil_append,List.append_nil]
 refine Ev.no h9 (Ev.yes (by omega) (Ev.yes (by simp only[ByteArray.size_append,bsz,List.size_toArray,List.length_cons,List.length_nil];omega) (Ev.yes (by omega) ?_)));rw[hq];refine wv0 (a:= [123,32,83,69,82,86,73,67,69]) (e:= [125]) (by decide) (by simp) n0 (by decide) ?_ hsz;unfold opT;rw[if_neg h1,if_neg h2,if_neg h3,if_neg h4,if_neg h6,if_neg h5,if_neg h7,if_neg h8,if_neg h9];simp only[Lib.join_cons,Lib.joinTail,List.map_cons,List.map_nil,List.flatten_cons,List.flatten_nil,List.append_assoc,List.cons_append,List.nil_append,List.append_nil]
end Go.Proofs.Ytcfoebkbahpnaaa.L
