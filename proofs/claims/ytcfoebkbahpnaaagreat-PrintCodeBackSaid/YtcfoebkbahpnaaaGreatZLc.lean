import Derived.Test.YtcfoebkbahpnaaaGreatZLa
/- What the functions of term come to. -/
set_option linter.unusedVariables false
set_option linter.unusedSimpArgs false
namespace Go.Proofs.YtcfoebkbahpnaaaGreat.Ab
open Go Go.Proofs.YtcfoebkbahpnaaaGreat

theorem letter_g (c:UInt8) (K:Bool→Option R):term_letter.g (c.toNat:Int) K=K (isLet c):=by
 unfold term_letter.g;simp only[bifd];(repeat' split);all_goals (congr 1;unfold isLet;rw[Bool.eq_iff_iff];simp only[Bool.or_eq_true,Bool.and_eq_true,decide_eq_true_eq,true_iff,false_iff,Bool.false_eq_true];omega)
theorem digit_g (c:UInt8) (K:Bool→Option R):term_digit.g (c.toNat:Int) K=K (isDig c):=by
 unfold term_digit.g;simp only[bifd];(repeat' split);all_goals (congr 1;unfold isDig;rw[Bool.eq_iff_iff];simp only[Bool.or_eq_true,Bool.and_eq_true,decide_eq_true_eq,true_iff,false_iff,Bool.false_eq_true];omega)
theorem nameB_iff (c:UInt8):nameB c=true ↔ isLet c=true∨isDig c=true∨c.toNat=95:=by
 unfold nameB;simp[or_assoc]
/-- What a loop over a text meets: the rest of it. -/
theorem named_l (s:ByteArray) (hs:s.size<4611686018427387904): ∀ (r:List UInt8) (i m:Nat) (K:Int→Option R),s.data.toList.drop i=r→i≤32→33 - i≤m→
 term_named.l4 m s (i:Int) K=K ((i+((r.take (32 - i)).takeWhile nameB).length:Nat):Int)
 |r,i,0,K,hd,hi,hm=>by omega
 | [],i,m+1,K,hd,hi,hm=>by
  have:=drop_size hd;rw[term_named.l4];simp only[bifd];rw[if_neg (by omega)];simp
 |c::r,i,m+1,K,hd,hi,hm=>by
  obtain⟨hb,his,hr⟩:=ch_drop hd;rw[term_named.l4];simp only[bifd2,bifd];rw[if_pos (by omega)];by_cases h32:i=32
  ·subst h32;rw[if_neg (by omega)];simp
  have ih:=named_l s hs r (i+1) m K hr (by omega) (by omega);simp only[if_pos (show(i:Int)<32 by omega),if_pos (show(0:Int)≤(i:Int)∧(i:Int)<(s.size:Int)by omega),hb,letter_g,digit_g,wr_succ (show i<9223372036854775807 by omega),ih];have e:32 - i=(32 - (i+1))+1:=(by omega);rw[e,List.take_succ_cons,List.takeWhile_cons];have e2:((c.toNat:Int)=95) ↔ c.toNat=95:=(by omega);cases hn:nameB c with
  |true=>
   rw[if_pos rfl,List.length_cons,show i+(((r.take (32 - (i+1))).takeWhile nameB).length+1)=i+1+((r.take (32 - (i+1))).takeWhile nameB).length by omega];rcases(nameB_iff c).1 hn with h|h|h
   ·rw[h];rfl
   ·cases isLet c<;>rw[h]<;>rfl
   simp only[e2,if_pos h];cases isLet c<;>cases isDig c<;>rfl
  |false=>
   have h1:isLet c=false:=by cases h:isLet c;rfl;rw[(nameB_iff c).2 (.inl h)]at hn;cases hn
   have h2:isDig c=false:=by cases h:isDig c;rfl;rw[(nameB_iff c).2 (.inr (.inl h))]at hn;cases hn
   have h3:¬ c.toNat=95:=fun h=>by rw[(nameB_iff c).2 (.inr (.inr h))]at hn;cases hn
   simp only[h1,h2,cond_false,e2,if_neg h3];simp
theorem named_g (s:ByteArray) (hs:s.size<4611686018427387904) {n:Nat} (hn:33≤n) (K:Int→Option R):term_named.g n s K=K ((nameN s.data.toList:Nat):Int):=by
 unfold term_named.g;rw[strEq_nil];cases hl:s.data.toList with
 |nil=>rfl
 |cons c r=>
  obtain⟨hb,his,hr⟩:=ch_drop (s:=s) (i:=0) (by rw[List.drop_zero];exact hl);simp only[List.isEmpty_cons,cond_false,bifd,if_pos (show(0:Int)<(s.size:Int)by omega),bifn];rw[show ch s (0:Int)=(c.toNat:Int)from hb,letter_g];cases h1:isLet c with
  |true=>
   rw[cond_true,show(1:Int)=((1:Nat):Int)from rfl,named_l s hs r 1 n K hr (by omega) (by omega),show nameN (c::r)=1+((r.take 31).takeWhile nameB).length by simp[nameN,h1]]
  |false=>rw[cond_false,show nameN (c::r)=0 by simp[nameN,h1]];rfl
theorem okName_iff (l:List UInt8):okName l=(!l.isEmpty && (nameN l==l.length)):=by
 cases l with
 |nil=>rfl
 |cons c r=>
  rw[Bool.eq_iff_iff];constructor
  ·intro h;obtain⟨h1,h2⟩:=okName_nameN h;simp[h1]
  intro h;simp only[List.isEmpty_cons,Bool.not_false,Bool.true_and,beq_iff_eq]at h;have:=nameN_ok (l:=c::r) (by rw[h,List.length_cons];omega);rwa[h,List.take_length]at this
theorem isName_g (s:ByteArray) (hs:s.size<4611686018427387904) {n:Nat} (hn:33≤n) (K:Bool→Option R):term_IsName.g n s K=K (okName s.data.toList):=by
 unfold term_IsName.g;rw[bifn,strEq_nil,named_g s hs hn,okName_iff,← size_toList];cases s.data.toList with
 |nil=>rfl
 |cons c r=>
  simp only[List.isEmpty_cons,cond_false,Bool.not_false,Bool.true_and];congr 1;rw[Bool.eq_iff_iff];simp only[decide_eq_true_eq,beq_iff_eq];omega
theorem textB_iff (c:UInt8):textB c=true ↔ (32≤c.toNat∧c.toNat≤126)∨c.toNat=10∨c.toNat=9:=by
 unfold textB;simp[or_assoc]
theorem isText_l (s:ByteArray) (hs:s.size<4611686018427387904): ∀ (r:List UInt8) (i m:Nat) (k0:Option R) (kr:Bool→Option R),s.data.toList.drop i=r→r.length<m→
 term_isText.l4 m s (i:Int) k0 kr=bif r.all textB then k0 else kr false
 |r,i,0,k0,kr,hd,hm=>by omega
 | [],i,m+1,k0,kr,hd,hm=>by
  have:=drop_size hd;rw[term_isText.l4];simp only[bifd];rw[if_neg (by omega)];rfl
 |c::r,i,m+1,k0,kr,hd,hm=>by
  obtain⟨hb,his,hr⟩:=ch_drop hd;have ih:=isText_l s hs r (i+1) m k0 kr hr (by simpa using hm);rw[term_isText.l4];simp only[bifn,bifd2,bifd,if_pos (show(i:Int)<(s.size:Int)by omega),if_pos (show(0:Int)≤(i:Int)∧(i:Int)<(s.size:Int)by omega),hb,wr_succ (show i<9223372036854775807 by omega),ih,List.all_cons];cases hn:textB c with
  |true=>
   have:=(textB_iff c).1 hn;(repeat' split);all_goals first|rfl|omega
  |false=>
   (have:¬ _:=fun h=>Bool.false_ne_true (hn.symm.trans ((textB_iff c).2 h)));(repeat' split);all_goals first|rfl|omega
theorem isText_g (s:ByteArray) (hs:s.size<4611686018427387904) {n:Nat} (hn:s.size<n) (K:Bool→Option R):term_isText.g n s K=K (okText s.data.toList):=by
 unfold term_isText.g okText;rw[bifd,← size_toList];have:=isText_l s hs s.data.toList 0 n (K true) K (by simp) (by rw[size_toList];exact hn);rw[show(0:Int)=((0:Nat):Int)from rfl,this];split
 ·rw[decide_eq_false (by omega)];rfl
 rw[decide_eq_true (by omega)];cases s.data.toList.all textB<;>rfl
theorem isLang_l (s:ByteArray) (hs:s.size<4611686018427387904): ∀ (r:List UInt8) (i m:Nat) (k0:Option R) (kr:Bool→Option R),s.data.toList.drop i=r→r.length<m→
 term_isLang.l4 m s (i:Int) k0 kr=bif r.all langB then k0 else kr false
 |r,i,0,k0,kr,hd,hm=>by omega
 | [],i,m+1,k0,kr,hd,hm=>by
  have:=drop_size hd;rw[term_isLang.l4];simp only[bifd];rw[if_neg (by omega)];rfl
 |c::r,i,m+1,k0,kr,hd,hm=>by
  obtain⟨hb,his,hr⟩:=ch_drop hd;have ih:=isLang_l s hs r (i+1) m k0 kr hr (by simpa using hm);rw[term_isLang.l4];simp only[bifn,bifd2,bifd,if_pos (show(i:Int)<(s.size:Int)by omega),if_pos (show(0:Int)≤(i:Int)∧(i:Int)<(s.size:Int)by omega),hb,wr_succ (show i<9223372036854775807 by omega),ih,List.all_cons];have hi:langB c=true ↔ 97≤c.toNat∧c.toNat≤122:=(by unfold langB;simp);cases hn:langB c with
  |true=>
   have:=hi.1 hn;(repeat' split);all_goals first|rfl|omega
  |false=>
   (have:¬ _:=fun h=>Bool.false_ne_true (hn.symm.trans (hi.2 h)));(repeat' split);all_goals first|rfl|omega
theorem isLang_g (s:ByteArray) (hs:s.size<4611686018427387904) {n:Nat} (hn:s.size<n) (K:Bool→Option R):term_isLang.g n s K=K (okLang s.data.toList):=by
 unfold term_isLang.g okLang;rw[bifd,strEq_nil,← size_toList];have:=isLang_l s hs s.data.toList 0 n (K true) K (by simp) (by rw[size_toList];exact hn);rw[show(0:Int)=((0:Nat):Int)from rfl,this];cases s.data.toList.isEmpty with
 |true=>rfl
 |false=>
  rw[cond_false];split
  ·rw[decide_eq_false (by omega)];rfl
  rw[decide_eq_true (by omega)];cases s.data.toList.all langB<;>rfl
theorem isIri_g (s:ByteArray) (K:Bool→Option R):term_isIri.g s K=K (okIri s.data.toList):=rfl
theorem check_g (k:Int) (x ty la:ByteArray) {n:Nat} (hn:33≤n) (hx:x.size<n) (hl:la.size<n) (hs:n<4611686018427387904) (K:Int→Option R):
 term_Check.g n k x ty la K=K (if okTm (tmOf k x ty la)then 0 else 2):=by
 unfold term_Check.g;simp only[isIri_g,isName_g x (by omega) hn,isText_g x (by omega) hx,isLang_g la (by omega) hl,bifn,bifd,strEq_nil];unfold okTm tmOf;simp only;by_cases h0:k=0
 ·subst h0;cases ty.data.toList.isEmpty<;>cases la.data.toList.isEmpty<;>cases x.data.toList.isEmpty<;>rfl
 by_cases h1:k=1
 ·subst h1;cases ty.data.toList.isEmpty<;>cases la.data.toList.isEmpty<;>cases okIri x.data.toList<;>rfl
 by_cases h3:k=3
 ·subst h3;cases ty.data.toList.isEmpty<;>cases la.data.toList.isEmpty<;>cases okName x.data.toList<;>rfl
 by_cases h4:k=4
 ·subst h4;cases ty.data.toList.isEmpty<;>cases la.data.toList.isEmpty<;>cases okName x.data.toList<;>rfl
 by_cases h2:k=2
 ·subst h2;cases ty.data.toList.isEmpty<;>cases la.data.toList.isEmpty<;>cases okText x.data.toList<;>cases okIri ty.data.toList<;>cases okLang la.data.toList<;>rfl
 simp only[if_neg h0,if_neg h1,if_neg h2,if_neg h3,if_neg h4,if_neg (show ¬(k=3∨k=4)by omega)];cases ty.data.toList.isEmpty<;>cases la.data.toList.isEmpty<;>rfl
end Go.Proofs.YtcfoebkbahpnaaaGreat.Ab

/- Plain terms, triples, parts, tables, operations; their rows; what formula.Check and triples.CheckPattern come to. -/
set_option linter.unusedVariables false
set_option linter.unusedSimpArgs false
namespace Go.Proofs.YtcfoebkbahpnaaaGreat.Ab
open Go Go.Proofs.YtcfoebkbahpnaaaGreat

section
variable {i : Nat}
theorem rd_term {l:List TermS} {x:TermS} (h:l[i]? =some x) (K):rd_isss (l.map eTerm) i K=K x.f0 x.f1 x.f2 x.f3:=by
 unfold rd_isss rowC;rw[List.getElem?_map,h];rfl
theorem rd_tri {l:List TriS} {x:TriS} (h:l[i]? =some x) (K):rd_isssisssisss (l.map eTri) i K=K x.f0.f0 x.f0.f1 x.f0.f2 x.f0.f3 x.f1.f0 x.f1.f1 x.f1.f2 x.f1.f3 x.f2.f0 x.f2.f1 x.f2.f2 x.f2.f3:=by
 unfold rd_isssisssisss rowC;rw[List.getElem?_map,h];rfl
theorem rd_part {l:List PartS} {x:PartS} (h:l[i]? =some x) (K):rd_iissssi (l.map ePart) i K=K x.f0 x.f1.f0 x.f1.f1 x.f1.f2 x.f1.f3 x.f2 x.f3:=by
 unfold rd_iissssi rowC;rw[List.getElem?_map,h];rfl
theorem rd_row {l:List (List TermS)} {x:List TermS} (h:l[i]? =some x) (K):rd_l4 (l.map eRow) i K=K (x.map eTerm):=by
 unfold rd_l4 rowC;rw[List.getElem?_map,h];rfl
theorem rd_op {l:List OpS} {x:OpS} (h:l[i]? =some x) (K):rd_il12l1l1l7sb (l.map eOp) i K=K x.f0 (x.f1.map eTri) (srow x.f2.f0) (x.f2.f1.map eRow) (x.f3.map ePart) x.f4 x.f5:=by
 unfold rd_il12l1l1l7sb rowC;rw[List.getElem?_map,h];rfl
end
theorem get_drop {α:Type} {xs:List α} {i:Nat} {c:α} {r:List α} (h:xs.drop i=c::r):xs[i]? =some c∧i<xs.length∧xs.drop (i+1)=r∧xs.take (i+1)=xs.take i++ [c]:=by
 have hi:i<xs.length:=by
  rcases Nat.lt_or_ge i xs.length with h'|h'
  ·exact h'
  rw[List.drop_eq_nil_of_le h']at h;cases h
 have h2:=List.drop_eq_getElem_cons hi;rw[h]at h2;injection h2 with h3 h4
 refine⟨by rw[List.getElem?_eq_getElem hi,h3],hi,h4.symm,?_⟩;rw[List.take_add_one,List.getElem?_eq_getElem hi,h3];rfl
theorem len_drop {α:Type} {xs:List α} {i:Nat} (h:xs.drop i= []):xs.length≤i:=List.drop_eq_nil_iff.1 h
/-! texts that are short beside the fuel -/
theorem check_t (t:TermS) {n:Nat} (hn:Fuel n) (ht:t.lt n) (K:Int→Option R):term_Check.g n t.f0 t.f1 t.f2 t.f3 K=K (if okTm (T t)then 0 else 2):=
 check_g _ _ _ _ (by have:=hn.1;omega) ht.1 ht.2.2 (by have:=hn.2;omega) K
/-! ### formulas -/
theorem fneeds_le (kd n:Int): -1≤fneeds kd n∧fneeds kd n≤16:=by
 unfold fneeds;(repeat' split);all_goals omega
theorem fneeds_g (a0 a1:Int) (a2 a3 a4 a5:ByteArray) (a6:Int) (K:Int→Option R):formula_Needs.g a0 a1 a2 a3 a4 a5 a6 K=K (fneeds a0 a6):=by
 unfold formula_Needs.g fneeds;simp only[bifd];by_cases c1:a0<1
 ·simp only[if_neg (show ¬ 1≤a0 by omega),if_neg (show ¬ 18≤a0 by omega),if_neg (show ¬ 6≤a0 by omega),if_neg (show ¬ a0=4 by omega),if_neg (show ¬ a0=5 by omega),if_neg (show ¬ a0=24 by omega),if_neg (show ¬ a0=25 by omega),if_neg (show ¬ a0=26 by omega),
   if_neg (show ¬(1≤a0∧a0≤3)by omega),if_neg (show ¬(a0=4∨a0=5∨(18≤a0∧a0≤23))by omega),if_neg (show ¬((6≤a0∧a0≤17)∨a0=24)by omega),if_neg (show ¬(a0=26∧1≤a6∧a6≤16)by omega)]
 rw[if_pos (show 1≤a0 by omega)];by_cases c2:a0≤3
 ·rw[if_pos c2,if_pos (by omega)]
 rw[if_neg c2,if_neg (show ¬(1≤a0∧a0≤3)by omega)];by_cases c3:a0=4∨a0=5∨(18≤a0∧a0≤23)
 ·rw[if_pos c3];rcases c3 with h|h|⟨h,h'⟩
  ·rw[if_pos h]
  ·rw[if_neg (by omega),if_pos h]
  rw[if_neg (by omega),if_neg (by omega),if_pos h,if_pos h']
 rw[if_neg c3,if_neg (show ¬ a0=4 by omega),if_neg (show ¬ a0=5 by omega)];have main:(if 6≤a0 then if a0≤17 then K 2 else if a0=24 then K 2 else if a0=25 then K 3 else if a0=26 then if 1≤a6 then if a6≤16 then K a6 else K (-1)else K (-1)else K (-1)
  else if a0=24 then K 2 else if a0=25 then K 3 else if a0=26 then if 1≤a6 then if a6≤16 then K a6 else K (-1)else K (-1)else K (-1))=
  K (if(6≤a0∧a0≤17)∨a0=24 then 2 else if a0=25 then 3 else if a0=26∧1≤a6∧a6≤16 then a6 else -1):=by
  rw[if_pos (show 6≤a0 by omega)];by_cases c4:a0≤17
  ·rw[if_pos c4,if_pos (by omega)]
  rw[if_neg c4];by_cases c5:a0=24
  ·rw[if_pos c5,if_pos (by omega)]
  rw[if_neg c5,if_neg (show ¬((6≤a0∧a0≤17)∨a0=24)by omega)];by_cases c6:a0=25
  ·rw[if_pos c6,if_pos c6]
  rw[if_neg c6,if_neg c6];by_cases c7:a0=26
  ·by_cases c8:1≤a6
   ·by_cases c9:a6≤16
    ·rw[if_pos c7,if_pos c8,if_pos c9,if_pos ⟨c7,c8,c9⟩]
    rw[if_pos c7,if_pos c8,if_neg c9,if_neg (by omega)]
   rw[if_pos c7,if_neg c8,if_neg (by omega)]
  rw[if_neg c7,if_neg (by omega)]
 by_cases c4:18≤a0
 ·rw[if_pos c4,if_neg (show ¬ a0≤23 by omega)];exact main
 rw[if_neg c4];exact main
theorem right_g (p:PartS) {n:Nat} (hn:Fuel n) (hp:p.lt n) (K:Bool→Option R):formula_right.g n p.f0 p.f1.f0 p.f1.f1 p.f1.f2 p.f1.f3 p.f2 p.f3 K=K (partOK p):=by
 have h33:33≤n:=(by have:=hn.1;omega);have hsz:p.f2.size<4611686018427387904:=(by have:=hn.2;have:=hp.2;omega);unfold formula_right.g partOK tmZ;simp only[check_t p.f1 hn hp.1,isName_g p.f2 hsz h33,fneeds_g,bifn,bifd,strEq_nil];(have e: ∀ a b:Int,(a==b)=decide (a=b):=fun a b=>rfl);simp only[e];by_cases h1:p.f0=1
 ·have hf:0≤fneeds p.f0 p.f3:=(by rw[h1];simp[fneeds]);simp only[if_pos h1,if_pos hf];cases okTm (T p.f1)<;>by_cases t1:p.f1.f0=1<;>by_cases t2:p.f1.f0=2<;>simp[t1,t2]
 simp only[if_neg h1];by_cases h2:p.f0=2
 ·have hf:0≤fneeds p.f0 p.f3:=(by rw[h2];simp[fneeds]);simp only[if_pos h2,if_pos hf,if_pos (show p.f0=2∨p.f0=3 from .inl h2)];cases okName p.f2.data.toList<;>simp[Bool.and_assoc]
 simp only[if_neg h2];by_cases h3:p.f0=3
 ·have hf:0≤fneeds p.f0 p.f3:=(by rw[h3];simp[fneeds]);simp only[if_pos h3,if_pos hf,if_pos (show p.f0=2∨p.f0=3 from .inr h3)];cases okName p.f2.data.toList<;>simp[Bool.and_assoc]
 simp only[if_neg h3,if_neg (show ¬(p.f0=2∨p.f0=3)by omega)];by_cases h26:p.f0=26
 ·simp only[if_pos h26];rw[h26];by_cases hf:0≤fneeds 26 p.f3
  ·rw[if_pos hf];simp[hf,Bool.and_assoc]
  rw[if_neg hf];simp[hf]
 simp only[if_neg h26];by_cases hf:0≤fneeds p.f0 p.f3
 ·rw[if_pos hf];simp[hf,Bool.and_assoc]
 rw[if_neg hf];simp[hf]
theorem fchk_l (x:List PartS) (hx:x.length≤256) {n:Nat} (hn:Fuel n) (hp: ∀ p ∈ x,p.lt n) (K:Int→Option R): ∀ (r:List PartS) (i m:Nat) (d:Int),x.drop i=r→0≤d→d≤2*i→r.length<m→
 formula_Check.l5 n m d (x.map ePart) (x.length:Int) (i:Int) (fun i9=>bif !(decide (i9=(1:Int)))then(K 2)else(K 0)) K=K (fchk d r)
 |r,i,0,d,hd,h0,h1,hm=>by omega
 | [],i,m+1,d,hd,h0,h1,hm=>by
  have:=len_drop hd;rw[formula_Check.l5];simp only[bifn,bifd];rw[if_neg (by omega),fchk];split<;>rfl
 |c::r,i,m+1,d,hd,h0,h1,hm=>by
  obtain⟨hg,hi,hr,_⟩:=get_drop hd;have hc:c.lt n:=hp c (List.mem_of_getElem? hg);rw[formula_Check.l5];simp only[bifn,bifd2,bifd,List.length_map,Int.toNat_natCast];rw[if_pos (by omega),if_pos (by omega),rd_part hg,right_g c hn hc];simp only[fneeds_g,fchk];cases partOK c with
  |false=>simp
  |true=>
   have hle:=fneeds_le c.f0 c.f3;rw[cond_true,if_pos rfl];by_cases hgt:fneeds c.f0 c.f3>d
   ·rw[if_pos (show d<fneeds c.f0 c.f3 from hgt),if_pos hgt]
   rw[if_neg (show ¬ d<fneeds c.f0 c.f3 from hgt),if_neg hgt];have:=fchk_l x hx hn hp K r (i+1) m (d+(1 - fneeds c.f0 c.f3)) hr (by omega) (by omega) (by simpa using hm);rw[wr_succ (by omega),wr_eq (1 - fneeds c.f0 c.f3) (by omega) (by omega),wr_eq _ (by omega) (by omega)];simpa only[bifn,bifd]using this
theorem fcheck_g (x:List PartS) {n:Nat} (hn:Fuel n) (hp: ∀ p ∈ x,p.lt n) (K:Int→Option R):formula_Check.g n (x.map ePart) K=K (fcheck x):=by
 unfold formula_Check.g fcheck;rw[bifd,List.length_map];by_cases h:x.length>256
 ·rw[if_pos (by omega),if_pos h]
 rw[if_neg (by omega),if_neg h];exact fchk_l x (by omega) hn hp K x 0 n 0 rfl (by omega) (by omega) (by have:=hn.1;omega)
end Go.Proofs.YtcfoebkbahpnaaaGreat.Ab
