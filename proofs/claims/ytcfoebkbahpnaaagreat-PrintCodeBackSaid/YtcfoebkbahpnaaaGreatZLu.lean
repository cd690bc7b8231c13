/- What the reader of words comes to: words, formulas, triples, tables. -/
import Derived.Test.YtcfoebkbahpnaaaGreatZLt
set_option linter.unusedSectionVars false
set_option linter.unusedVariables false
set_option linter.unusedSimpArgs false
namespace Go.Proofs.YtcfoebkbahpnaaaGreat.Ab
open Go Go.Proofs.YtcfoebkbahpnaaaGreat

/-- is a word this one? -/
def isW (w : TokS) (s : List UInt8) : Prop := w.k = 1 ∧ w.x.data.toList = s
instance (w : TokS) (s : List UInt8) : Decidable (isW w s) := by unfold isW; infer_instance
theorem key_is (x s:List UInt8):isW (wKey x) s ↔ x=s:=by unfold isW wKey;simp[ofL_toList]
theorem not_key {w:TokS} (h:w.k≠1) (s:List UInt8):¬ isW w s:=fun e=>h e.1
section
variable {l:RW} {WS:List TokS} (hT:Toks l WS) (hW:WS.length≤4096) {i:Nat} {w:TokS} {r:List TokS} (hd:WS.drop i=w::r)
include hT hW hd
theorem nextq (p:Bool): ∃ a:Int,∀ K:Int→ByteArray→Int→ByteArray→ByteArray→ByteArray→Int→RW→Int→Bool→Option R,query_words_next.g l (i:Int) p K=K w.k w.x w.t.f0 w.t.f1 w.t.f2 w.t.f3 a l (i:Int) p:=by
 obtain⟨hi,a,hr⟩:=toks_rd hT hd;refine⟨a,fun K=>?_⟩;unfold query_words_next.g;simp only[bifd,bifd2,Int.toNat_natCast,hr];rw[if_pos (by omega),if_pos (by omega)]
theorem takesq (kd:Int) (s:List UInt8) (K:Bool→RW→Int→Bool→Option R):query_words_takes.g kd (ofL s) l (i:Int) false K=if w.k=kd∧w.x.data.toList=s then K true l ((i+1:Nat):Int) false else K false l (i:Int) false:=by
 obtain⟨a,hr⟩:=nextq hT hW hd false;have hi:=(toks_rd hT hd).1;have:=hT.1;unfold query_words_takes.g;rw[hr];simp only[cond_false,bifn,bifd];by_cases hk:w.k=kd
 ·rw[if_pos hk,strEq_dec,ofL_toList];by_cases hs:w.x.data.toList=s
  ·rw[decide_eq_true hs,cond_true,if_pos ⟨hk,hs⟩,wr_succ (by omega)]
  rw[decide_eq_false hs,cond_false,if_neg fun h=>hs h.2]
 rw[if_neg hk,if_neg fun h=>hk h.1]
theorem signq (s:List UInt8) (K:Bool→RW→Int→Bool→Option R):query_words_sign.g (ofL s) l (i:Int) false K=if isS w s then K true l ((i+1:Nat):Int) false else K false l (i:Int) false:=takesq hT hW hd 5 s _
theorem keyq (s:List UInt8) (K:Bool→RW→Int→Bool→Option R):query_words_key.g (ofL s) l (i:Int) false K=if isW w s then K true l ((i+1:Nat):Int) false else K false l (i:Int) false:=takesq hT hW hd 1 s _
end
theorem mustq (l:RW) (i:Int) (K:RW→Int→Bool→Option R):query_words_must.g true l i false K=K l i false:=rfl
section
variable {l:RW} {WS:List TokS} (hT:Toks l WS) (hW:WS.length≤4096) {i:Nat} {r:List TokS}
include hT hW
theorem varq {s:ByteArray} (hd:WS.drop i=wVar s::r) (K:ByteArray→RW→Int→Bool→Option R):query_words_variable.g l (i:Int) false K=K s l ((i+1:Nat):Int) false:=by
 obtain⟨a,hr⟩:=nextq hT hW hd false;have hi:=(toks_rd hT hd).1;have:=hT.1;unfold query_words_variable.g;rw[hr,show decide ((wVar s).k=2)=true from rfl,mustq,wr_succ (by omega)];rfl
theorem formq {n:Nat} (hn:100<n) {x:List PartS} (hx:fcheck x=0) (hf:Fuel n) (hxl: ∀ p ∈ x,p.lt n) (hD:40000≤n) {v:TokS} (hd:WS.drop i=fW x++v::r) (hv:Free 0 v) (K:RW→RW→Int→Bool→Option R):
 query_reader_formula.g n l (i:Int) false K=K (x.map ePart) l ((i+(fW x).length:Nat):Int) false:=by
 unfold query_reader_formula.g;rw[cond_false,formula_g hn hT hW hx hf hxl hD hd hv];rfl
/-- a term that may stand in a pattern -/
def okPl (t : TermS) : Prop := okTm (T t) = true ∧ (t.f0 = 1 ∨ t.f0 = 2 ∨ t.f0 = 4)
theorem plq {t:TermS} (ht:okPl t) (hd:WS.drop i=wOf t::r) (K:Int→ByteArray→ByteArray→ByteArray→RW→Int→Bool→Option R):query_reader_place.g l (i:Int) false K=K t.f0 t.f1 t.f2 t.f3 l ((i+1:Nat):Int) false:=by
 obtain⟨a,hr⟩:=nextq hT hW hd false;have hi:=(toks_rd hT hd).1;have:=hT.1;unfold query_reader_place.g;rw[hr];simp only[bifd];rw[wr_succ (by omega)];by_cases h4:t.f0=4
 ·have e:wOf t=wVar t.f1:=(by unfold wOf;rw[if_neg (by omega),if_pos h4]);have ho:=okTm_other ht.1 (show(T t).k≠2 by show t.f0≠2;omega);have e2:t.f2=⟨#[]⟩:=(by have:=ho.1;rw[← ofL_data t.f2];exact congrArg ofL this);have e3:t.f3=⟨#[]⟩:=(by have:=ho.2.1;rw[← ofL_data t.f3];exact congrArg ofL this);rw[e,if_pos (show(wVar t.f1).k=2 from rfl),h4,e2,e3];rfl
 have e:wOf t=wTm t:=(by have:=ht.2;unfold wOf;rw[if_neg (by omega),if_neg h4]);rw[e,if_neg (show ¬(wTm t).k=2 by show ¬(3:Int)=2;decide),show decide ((wTm t).k=3)=true from rfl,mustq];rfl
theorem kind_of (t:TermS) (ht:okPl t):(wOf t).k=2∨(wOf t).k=3:=by
 unfold wOf;have:=ht.2;rw[if_neg (by omega)];split
 ·exact .inl rfl
 exact .inr rfl
end
theorem pat_pl {t:TriS} (h:patOK t=true):okPl t.f0∧okPl t.f1∧okPl t.f2:=by
 unfold patOK triOK at h;simp only[Bool.and_eq_true,Bool.or_eq_true,beq_iff_eq,Bool.not_eq_true',beq_eq_false_iff_ne]at h;obtain⟨⟨⟨⟨⟨h0,h1,h2⟩,h3⟩,h4⟩,h5⟩,h6⟩:=h;refine⟨⟨h0,by omega⟩,⟨h1,by omega⟩,h2,?_⟩;by_cases k2:(T t.f2).k=2
 ·exact .inr (.inl k2)
 have:=(okTm_other h2 k2).2.2.2.2.2.2;have e:(T t.f2).k=t.f2.f0:=rfl;rw[e]at this;omega
section
variable {n:Nat} (hf:Fuel n) {l:RW} {WS:List TokS} (hT:Toks l WS) (hW:WS.length≤4096)
include hf hT hW
theorem trisq (a0:Int) (a1 a2 a3 a4:RW) (a5:ByteArray) (a6:Bool) (b0:Int) (b2 b3 b4:RW) (b5:ByteArray) (b6:Bool) {v:TokS} {r0:List TokS} (hv:v.k≠2∧v.k≠3) (k0:RW→Int→Bool→Int→RW→RW→RW→RW→ByteArray→Bool→Int→RW→RW→RW→RW→ByteArray→Bool→Option R):
 ∀ (ts:List TriS) (i m:Nat) (L:List TriS),(∀ t ∈ ts,patOK t=true∧t.lt n)→WS.drop i=ts.flatMap triW++v::r0→L.length+ts.length≤1000→ts.length<m→
  query_reader_triples.l2 n m l (i:Int) false a0 a1 a2 a3 a4 a5 a6 b0 (L.map eTri) b2 b3 b4 b5 b6 k0=k0 l ((i+(ts.flatMap triW).length:Nat):Int) false a0 a1 a2 a3 a4 a5 a6 b0 ((L++ts).map eTri) b2 b3 b4 b5 b6
 |ts,i,0,L,ha,hd,hl,hm=>by omega
 | [],i,m+1,L,ha,hd,hl,hm=>by
  have hd':WS.drop i=v::r0:=hd;obtain⟨a,hr⟩:=nextq hT hW hd' false;rw[query_reader_triples.l2];simp only[bifn,cond_false,hr,bifd];rw[if_neg hv.1,if_neg hv.2];simp
 |t::ts,i,m+1,L,ha,hd,hl,hm=>by
  obtain⟨hp,htl⟩:=ha t (List.mem_cons_self ..);obtain⟨p0,p1,p2⟩:=pat_pl hp;simp only[List.length_cons]at hl hm;have hd0:WS.drop i=wOf t.f0::wOf t.f1::wOf t.f2::wSig [46]::(ts.flatMap triW++v::r0):=(by rw[hd];simp[triW]);have hd1:WS.drop (i+1)=wOf t.f1::wOf t.f2::wSig [46]::(ts.flatMap triW++v::r0):=(by rw[← List.drop_drop,hd0];rfl);have hd2:WS.drop (i+1+1)=wOf t.f2::wSig [46]::(ts.flatMap triW++v::r0):=(by rw[← List.drop_drop,hd1];rfl);have hd3:WS.drop (i+1+1+1)=wSig [46]::(ts.flatMap triW++v::r0):=(by rw[← List.drop_drop,hd2];rfl);have hd4:WS.drop (i+1+1+1+1)=ts.flatMap triW++v::r0:=(by rw[← List.drop_drop,hd3];rfl);obtain⟨a,hr⟩:=nextq hT hW hd0 false;have ih:=trisq a0 a1 a2 a3 a4 a5 a6 b0 b2 b3 b4 b5 b6 hv k0 ts (i+1+1+1+1) m (L++ [t]) (fun u hu=>ha u (List.mem_cons_of_mem _ hu)) hd4 (by simp;omega) (by omega);have happ: ∀ K:RW→Option R,appC 168 (L.map eTri) [[I t.f0.f0,S t.f0.f1,S t.f0.f2,S t.f0.f3,I t.f1.f0,S t.f1.f1,S t.f1.f2,S t.f1.f3,I t.f2.f0,S t.f2.f1,S t.f2.f2,S t.f2.f3]] K=K ((L++ [t]).map eTri):=fun K=>by
   rw[appC_ok (by simp;omega) (by simp;omega)];congr 1;simp[eTri,DV.dis1]
  have e02t:e02 (patOK t)=0:=(by rw[hp];rfl);have hlen:i+((t::ts).flatMap triW).length=i+1+1+1+1+(ts.flatMap triW).length:=(by simp[triW];omega);rw[hlen,show L++t::ts=L++ [t]++ts by simp];rw[query_reader_triples.l2];simp only[bifn,cond_false,hr,bifd];rcases kind_of hT hW t.f0 p0 with hk|hk
  ·rw[if_pos hk,plq hT hW p0 hd0,plq hT hW p1 hd1,plq hT hW p2 hd2,show(⟨#[46]⟩:ByteArray)=ofL [46]from rfl,signq hT hW hd3,if_pos ((sig_is _ _).2 rfl),cond_true,patOK_g t hf htl,e02t,decide_eq_true rfl,mustq,happ];exact ih
  rw[if_neg (by omega),if_pos hk,plq hT hW p0 hd0,plq hT hW p1 hd1,plq hT hW p2 hd2,show(⟨#[46]⟩:ByteArray)=ofL [46]from rfl,signq hT hW hd3,if_pos ((sig_is _ _).2 rfl),cond_true,patOK_g t hf htl,e02t,decide_eq_true rfl,mustq,happ];exact ih
/-- a term that may be a table's cell -/
theorem valq {i:Nat} {r:List TokS} {t:TermS} (h:cellV t=true) (hd:WS.drop i=wOf t::r) (K:Int→ByteArray→ByteArray→ByteArray→Bool→RW→Int→Bool→Option R):query_reader_value.g l (i:Int) false K=K t.f0 t.f1 t.f2 t.f3 true l ((i+1:Nat):Int) false:=by
 unfold cellV at h;simp only[Bool.and_eq_true,Bool.not_eq_true',beq_eq_false_iff_ne]at h;obtain⟨⟨h1,h3⟩,h4⟩:=h;obtain⟨a,hr⟩:=nextq hT hW hd false;have hi:=(toks_rd hT hd).1;have:=hT.1;unfold query_reader_value.g;rw[hr,show(⟨#[85,78,68,69,70]⟩:ByteArray)=ofL undefT from rfl,keyq hT hW hd];by_cases h0:t.f0=0
 ·have e:wOf t=wKey undefT:=(by unfold wOf;rw[if_pos h0]);have ho:=okTm_other h1 (show(T t).k≠2 by show t.f0≠2;omega);have e1:t.f1=⟨#[]⟩:=(by have:=ho.2.2.2.1 h0;rw[← ofL_data t.f1];exact congrArg ofL this);have e2:t.f2=⟨#[]⟩:=(by have:=ho.1;rw[← ofL_data t.f2];exact congrArg ofL this);have e3:t.f3=⟨#[]⟩:=(by have:=ho.2.1;rw[← ofL_data t.f3];exact congrArg ofL this);rw[e,if_pos ((key_is _ _).2 rfl),cond_true,h0,e1,e2,e3]
 have e:wOf t=wTm t:=(by unfold wOf;rw[if_neg h0,if_neg h4]);rw[e,if_neg (not_key (show(3:Int) ≠1 by decide) _),cond_false,bifd,if_pos (show(wTm t).k=3 from rfl),wr_succ (by omega)];rfl
theorem cellsq (a0:Int) (a1 a2 a3 a4:RW) (a5:ByteArray) (a6:Bool) (b0:Int) (b1 b2 b3 b4:RW) (b5:ByteArray) (b6:Bool) {r0:List TokS} (k4:RW→RW→Int→Bool→Int→RW→RW→RW→RW→ByteArray→Bool→Int→RW→RW→RW→RW→ByteArray→Bool→Option R):
 ∀ (ts:List TermS) (i m:Nat) (L:List TermS),(∀ t ∈ ts,cellV t=true)→WS.drop i=ts.map wOf++wSig [41]::r0→L.length+ts.length≤1000→ts.length<m→
  query_reader_table.l9 m (L.map eTerm) l (i:Int) false a0 a1 a2 a3 a4 a5 a6 b0 b1 b2 b3 b4 b5 b6 k4=k4 ((L++ts).map eTerm) l ((i+ts.length:Nat):Int) false a0 a1 a2 a3 a4 a5 a6 b0 b1 b2 b3 b4 b5 b6
 |ts,i,0,L,ha,hd,hl,hm=>by omega
 | [],i,m+1,L,ha,hd,hl,hm=>by
  have hd':WS.drop i=wSig [41]::r0:=hd;obtain⟨a,hr⟩:=nextq hT hW hd' false;rw[query_reader_table.l9];unfold query_reader_value.g;rw[hr,show(⟨#[85,78,68,69,70]⟩:ByteArray)=ofL undefT from rfl,keyq hT hW hd',if_neg (not_key (show(5:Int) ≠1 by decide) _)];simp only[cond_false,bifd,bifn];rw[if_neg (show ¬(wSig [41]).k=3 by decide),if_neg (show ¬(wSig [41]).k=4 by decide)];simp
 |t::ts,i,m+1,L,ha,hd,hl,hm=>by
  simp only[List.length_cons]at hl hm;have hd0:WS.drop i=wOf t::(ts.map wOf++wSig [41]::r0):=hd;have hd1:WS.drop (i+1)=ts.map wOf++wSig [41]::r0:=(by rw[← List.drop_drop,hd0];rfl);have ih:=cellsq a0 a1 a2 a3 a4 a5 a6 b0 b1 b2 b3 b4 b5 b6 k4 ts (i+1) m (L++ [t]) (fun u hu=>ha u (List.mem_cons_of_mem _ hu)) hd1 (by simp;omega) (by omega);have happ: ∀ K:RW→Option R,appC 56 (L.map eTerm) [[I t.f0,S t.f1,S t.f2,S t.f3]] K=K ((L++ [t]).map eTerm):=fun K=>by
   rw[appC_ok (by simp;omega) (by simp;omega)];congr 1;simp[eTerm,DV.dis1]
  rw[query_reader_table.l9,valq hf hT hW (ha t (List.mem_cons_self ..)) hd0];simp only[bifn,cond_true];rw[happ,ih];rw[show i+1+ts.length=i+(t::ts).length by simp;omega,show L++ [t]++ts=L++t::ts by simp]
theorem rowsq (a0:Int) (a1 a2 a3 a4:RW) (a5:ByteArray) (a6:Bool) (b0:Int) (b1 b2 b4:RW) (b5:ByteArray) (b6:Bool) (hn:2000<n) {r0:List TokS} (k2:RW→Int→Bool→Int→RW→RW→RW→RW→ByteArray→Bool→Int→RW→RW→RW→RW→ByteArray→Bool→Option R):
 ∀ (rs:List (List TermS)) (i m:Nat) (L:List (List TermS)),(∀ row ∈ rs,row.length≤100∧ ∀ t ∈ row,cellV t=true)→WS.drop i=rs.flatMap rowW++wSig [125]::r0→L.length+rs.length≤1000→rs.length<m→
  query_reader_table.l7 n m l (i:Int) false a0 a1 a2 a3 a4 a5 a6 b0 b1 b2 (L.map eRow) b4 b5 b6 k2=k2 l ((i+(rs.flatMap rowW).length:Nat):Int) false a0 a1 a2 a3 a4 a5 a6 b0 b1 b2 ((L++rs).map eRow) b4 b5 b6
 |rs,i,0,L,ha,hd,hl,hm=>by omega
 | [],i,m+1,L,ha,hd,hl,hm=>by
  have hd':WS.drop i=wSig [125]::r0:=hd;rw[query_reader_table.l7,show(⟨#[40]⟩:ByteArray)=ofL [40]from rfl,signq hT hW hd',if_neg (fun h=>by have:=(sig_is _ _).1 h;revert this;decide),cond_false];simp
 |row::rs,i,m+1,L,ha,hd,hl,hm=>by
  simp only[List.length_cons]at hl hm;obtain⟨hrl,hrc⟩:=ha row (List.mem_cons_self ..);have hd0:WS.drop i=wSig [40]::(row.map wOf++wSig [41]::(rs.flatMap rowW++wSig [125]::r0)):=(by rw[hd];simp[rowW]);have hd1:WS.drop (i+1)=row.map wOf++wSig [41]::(rs.flatMap rowW++wSig [125]::r0):=(by rw[← List.drop_drop,hd0];rfl);have hd2:WS.drop (i+1+row.length)=wSig [41]::(rs.flatMap rowW++wSig [125]::r0):=(by have:=drop_more hd1;rwa[List.length_map]at this);have hd3:WS.drop (i+1+row.length+1)=rs.flatMap rowW++wSig [125]::r0:=(by rw[← List.drop_drop,hd2];rfl);have ih:=rowsq a0 a1 a2 a3 a4 a5 a6 b0 b1 b2 b4 b5 b6 hn k2 rs (i+1+row.length+1) m (L++ [row]) (fun u hu=>ha u (List.mem_cons_of_mem _ hu)) hd3 (by simp;omega) (by omega);have happ: ∀ K:RW→Option R,appC 24 (L.map eRow) [[.sl false 4 (row.map eTerm)]] K=K ((L++ [row]).map eRow):=fun K=>by
   rw[appC_ok (by simp;omega) (by simp;omega)];congr 1;simp[eRow,DV.dis1]
  have hc:=cellsq hf hT hW a0 a1 a2 a3 a4 a5 a6 b0 b1 b2 (L.map eRow) b4 b5 b6 (fun l51 l52 i28 p29 i29 l53 l54 l55 l56 s17 p30 i30 l57 l58 l59 l60 s18 p31=>query_words_sign.g ⟨#[41]⟩ l52 i28 p29 fun p32 l61 i31 p33=>query_words_must.g p32 l61 i31 p33 fun l62 i32 p34=>appC 24 l59 [[.sl false 4 l51]] fun l63=>query_reader_table.l7 n m l62 i32 p34 i29 l53 l54 l55 l56 s17 p30 i30 l57 l58 l63 l60 s18 p31 k2) row (i+1) n [] hrc hd1 (by simp;omega) (by omega);rw[show([]:List TermS).map eTerm= []from rfl]at hc;rw[query_reader_table.l7,show(⟨#[40]⟩:ByteArray)=ofL [40]from rfl,signq hT hW hd0,if_pos ((sig_is _ _).2 rfl),cond_true];refine hc.trans ?_;(show query_words_sign.g (ofL [41]) _ _ _ _=_);rw[signq hT hW hd2,if_pos ((sig_is _ _).2 rfl),mustq,List.nil_append,happ,ih];rw[show i+1+row.length+1+(rs.flatMap rowW).length=i+((row::rs).flatMap rowW).length by simp[rowW];omega,show L++ [row]++rs=L++row::rs by simp]
theorem varsq (a0:Int) (a1 a2 a3 a4:RW) (a5:ByteArray) (a6:Bool) (b0:Int) (b1 b3 b4:RW) (b5:ByteArray) (b6:Bool) {r0:List TokS} (k0:RW→Int→Bool→Int→RW→RW→RW→RW→ByteArray→Bool→Int→RW→RW→RW→RW→ByteArray→Bool→Option R):
 ∀ (vs:List ByteArray) (i m:Nat) (L:List ByteArray),WS.drop i=vs.map wVar++wSig [41]::r0→L.length+vs.length≤1000→vs.length<m→
  query_reader_table.l3 m l (i:Int) false a0 a1 a2 a3 a4 a5 a6 b0 b1 (srow L) b3 b4 b5 b6 k0=k0 l ((i+vs.length:Nat):Int) false a0 a1 a2 a3 a4 a5 a6 b0 b1 (srow (L++vs)) b3 b4 b5 b6
 |vs,i,0,L,hd,hl,hm=>by omega
 | [],i,m+1,L,hd,hl,hm=>by
  have hd':WS.drop i=wSig [41]::r0:=hd;obtain⟨a,hr⟩:=nextq hT hW hd' false;rw[query_reader_table.l3];simp only[bifn,cond_false,hr,bifd];rw[if_neg (show ¬(wSig [41]).k=2 by decide)];simp
 |v::vs,i,m+1,L,hd,hl,hm=>by
  simp only[List.length_cons]at hl hm;have hd0:WS.drop i=wVar v::(vs.map wVar++wSig [41]::r0):=hd;have hd1:WS.drop (i+1)=vs.map wVar++wSig [41]::r0:=(by rw[← List.drop_drop,hd0];rfl);obtain⟨a,hr⟩:=nextq hT hW hd0 false;have ih:=varsq a0 a1 a2 a3 a4 a5 a6 b0 b1 b3 b4 b5 b6 k0 vs (i+1) m (L++ [v]) hd1 (by simp;omega) (by omega);have happ: ∀ K:RW→Option R,appC 16 (srow L) [[S v]] K=K (srow (L++ [v])):=fun K=>by
   rw[appC_ok (by simp[srow];omega) (by simp[srow];omega)];congr 1;simp[srow,DV.dis1]
  rw[query_reader_table.l3];simp only[bifn,cond_false,hr,bifd];rw[if_pos (show(wVar v).k=2 from rfl),varq hT hW hd0,happ,ih];rw[show i+1+vs.length=i+(v::vs).length by simp;omega,show L++ [v]++vs=L++v::vs by simp]
theorem tableq (hn:2000<n) {vars:List ByteArray} {rows:List (List TermS)} (hv:vars.length≤100) (hr:rows.length≤100) (hc: ∀ row ∈ rows,row.length≤100∧ ∀ t ∈ row,cellV t=true) {i:Nat} {r0:List TokS}
 (hd:WS.drop i=wSig [40]::(vars.map wVar++wSig [41]::wSig [123]::(rows.flatMap rowW++wSig [125]::r0))) (K:Int→RW→RW→RW→RW→ByteArray→Bool→RW→Int→Bool→Option R):
 query_reader_table.g n l (i:Int) false K=K 2 [] (srow vars) (rows.map eRow) [] ⟨#[]⟩ false l ((i+(vars.length+(rows.flatMap rowW).length+4):Nat):Int) false:=by
 have hd1:WS.drop (i+1)=vars.map wVar++wSig [41]::wSig [123]::(rows.flatMap rowW++wSig [125]::r0):=(by rw[← List.drop_drop,hd];rfl);have hd2:WS.drop (i+1+vars.length)=wSig [41]::wSig [123]::(rows.flatMap rowW++wSig [125]::r0):=(by have:=drop_more hd1;rwa[List.length_map]at this);have hd3:WS.drop (i+1+vars.length+1)=wSig [123]::(rows.flatMap rowW++wSig [125]::r0):=(by rw[← List.drop_drop,hd2];rfl);have hd4:WS.drop (i+1+vars.length+1+1)=rows.flatMap rowW++wSig [125]::r0:=(by rw[← List.drop_drop,hd3];rfl);have hd5:WS.drop (i+1+vars.length+1+1+(rows.flatMap rowW).length)=wSig [125]::r0:=drop_more hd4;unfold query_reader_table.g;simp only[lit];rw[signq hT hW hd,if_pos ((sig_is _ _).2 rfl),mustq];refine(varsq hf hT hW 0 [] [] [] [] (ofL []) false 2 [] [] [] (ofL []) false _ vars (i+1) n [] hd1 (by simp;omega) (by omega)).trans ?_;rw[signq hT hW hd2,if_pos ((sig_is _ _).2 rfl),mustq,signq hT hW hd3,if_pos ((sig_is _ _).2 rfl),mustq];refine(rowsq hf hT hW 0 [] [] [] [] (ofL []) false 2 [] (srow ([]++vars)) [] (ofL []) false hn _ rows (i+1+vars.length+1+1) n [] hc hd4 (by simp;omega) (by omega)).trans ?_;rw[signq hT hW hd5,if_pos ((sig_is _ _).2 rfl),mustq];rw[show i+1+vars.length+1+1+(rows.flatMap rowW).length+1=i+(vars.length+(rows.flatMap rowW).length+4)by omega];rfl
end
end Go.Proofs.YtcfoebkbahpnaaaGreat.Ab
