/- What print.basic, print.table, print.text come to. -/
import Derived.Test.YtcfoebkbahpnaaaGreatZFzb
set_option linter.unusedSectionVars false
set_option linter.unusedVariables false
set_option linter.unusedSimpArgs false
namespace Go.Proofs.YtcfoebkbahpnaaaGreat.Ab
open Go Go.Proofs.YtcfoebkbahpnaaaGreat

theorem wv {c:List UInt8} (xs:List (List UInt8)) (hne: ∀ x ∈ xs,x≠ []) (e:Lib.join xs [32]=c) (hx:xs.length≤100) (hl:c.length≤140737488355328) {n:Nat} (hn:1000<n) (K:ByteArray→Option R):print_words.g n (srow (xs.map ofL)) K=K (ofL c):=by
 have:=words_g (xs.map ofL) (by rw[List.length_map];omega) (by rw[wordsP_all hne,e];exact hl) hn K;rwa[wordsP_all hne,e]at this
theorem w2 {a b c:List UInt8} (ha:a≠ []) (hb:b≠ []) (e:a++32::b=c) (hl:c.length≤140737488355328) {n:Nat} (hn:1000<n) (K:ByteArray→Option R):print_words.g n [[S (ofL a)],[S (ofL b)]] K=K (ofL c):=
 wv [a,b] (by simp[ha,hb]) (by rw[← e];simp[Lib.join_cons,Lib.joinTail]) (by simp) hl hn K
theorem pbasic_l (x:List TriS) (hx:x.length≤32) (h: ∀ t ∈ x,tri3 t) {n:Nat} (hn:Fuel n) (hn2:1000<n) (hlt: ∀ t ∈ x,t.lt n) (k0:ByteArray→Option R): ∀ (r:List TriS) (i m:Nat),x.drop i=r→r.length<m→
 print_basic.l3 n m (ofL (basA (x.take i))) (x.map eTri) (x.length:Int) (i:Int) k0=k0 (ofL (basA x))
 |r,i,0,hd,hm=>by omega
 | [],i,m+1,hd,hm=>by
  have hi:=len_drop hd;rw[print_basic.l3];simp only[bifd];rw[if_neg (by omega),List.take_of_length_le hi]
 |t::r,i,m+1,hd,hm=>by
  obtain⟨hg,hi,hr,ht⟩:=get_drop hd;have hmem:t ∈ x:=List.mem_of_getElem? hg;have h3:=h t hmem;have hl:=hlt t hmem;have hz:=basA_len (take_all h i);rw[List.length_take]at hz;have hz3:=triT_len h3;have e:Lib.join [basA (x.take i),ofT (T t.f0),ofT (T t.f1),ofT (T t.f2),[46]] [32]=basA (x.take (i+1)):=by
   rw[ht,basA_snoc];simp[Lib.join_cons,Lib.joinTail,triT]
  have hw:=fun K=>wv (n:=n) [basA (x.take i),ofT (T t.f0),ofT (T t.f1),ofT (T t.f2),[46]] (by
   simp only[List.forall_mem_cons]
   exact⟨by simp[basA],ofT_ne h3.1,ofT_ne h3.2.1,ofT_ne h3.2.2,by decide,fun _ h_=>by cases h_⟩) e (by simp) (by rw[ht,basA_snoc,List.length_append];omega) hn2 K
  have ih:=pbasic_l x hx h hn hn2 hlt k0 r (i+1) m hr (by simpa using hm);rw[print_basic.l3];simp only[bifd2,bifd,List.length_map,Int.toNat_natCast,lit];rw[if_pos (by omega),if_pos (by omega),rd_tri hg,of_g t.f0 hn hl.1 h3.1,of_g t.f1 hn hl.2.1 h3.2.1,of_g t.f2 hn hl.2.2 h3.2.2,wr_succ (by omega)];exact(hw _).trans ih
theorem pbasic_g (x:List TriS) (hx:x.length≤32) (h: ∀ t ∈ x,tri3 t) {n:Nat} (hn:Fuel n) (hn2:1000<n) (hlt: ∀ t ∈ x,t.lt n) (K:ByteArray→Option R):print_basic.g n (x.map eTri) K=K (ofL (basT x)):=by
 unfold print_basic.g;rw[List.length_map];have hz:=basA_len h;refine(pbasic_l x hx h hn hn2 hlt _ x 0 n rfl (by omega)).trans ?_;exact w2 (b:= [125]) (by simp[basA]) (by simp) (by simp[basT]) (by simp[basT];omega) hn2 K
section
variable {vars:List ByteArray} {rows:List (List TermS)} (h:tabOK vars rows) {n:Nat} (hn:Fuel n) (hn2:1000<n) (hv: ∀ s ∈ vars,s.size<n) (hr: ∀ r ∈ rows,rowLt n r)
include h hn hn2
include hr in
theorem ptab_l2 (i:Nat) (row:List TermS) (hrow:row ∈ rows) (l10:RW) (i5 i6:Int) (k4:ByteArray→RW→Int→Int→Option R): ∀ (r:List TermS) (j m:Nat),row.drop j=r→r.length<m→
 print_table.l13 n m (ofL (tabA vars (rows.take i)++32::40::rowA (row.take j))) l10 i5 i6 (row.map eTerm) (row.length:Int) (j:Int) k4=k4 (ofL (tabA vars (rows.take i)++32::40::rowA row)) l10 i5 i6
 |r,j,0,hd,hm=>by omega
 | [],j,m+1,hd,hm=>by
  have hj:=len_drop hd;rw[print_table.l13];simp only[bifd];rw[if_neg (by omega),List.take_of_length_le hj]
 |t::r,j,m+1,hd,hm=>by
  obtain⟨hg,hj,hr',ht⟩:=get_drop hd;have hmem:t ∈ row:=List.mem_of_getElem? hg;have hok:=h.t row hrow t hmem;have hz:=tabA_len h i;have hzr:=rowA_len (take_all (h.t row hrow) (j+1));have hl:=h.l row hrow;have hv':=h.v;rw[List.length_take]at hzr;have ih:=ptab_l2 i row hrow l10 i5 i6 k4 r (j+1) m hr' (by simpa using hm);rw[print_table.l13];simp only[bifd2,bifd,List.length_map,Int.toNat_natCast];rw[if_pos (by omega),if_pos (by omega),rd_term hg,of_g t hn ((hr row hrow).2 t hmem) hok,wr_succ (by omega)];rw[w2 (c:=tabA vars (rows.take i)++32::40::rowA (row.take (j+1))) (by simp) (ofT_ne hok) (by rw[ht,rowA_snoc];simp) (by simp only[List.length_append,List.length_cons];omega) hn2];exact ih
include hr in
theorem ptab_l1 (k2:ByteArray→Option R): ∀ (r:List (List TermS)) (i m:Nat),rows.drop i=r→r.length<m→
 print_table.l9 n m (ofL (tabA vars (rows.take i))) (rows.map eRow) (rows.length:Int) (i:Int) k2=k2 (ofL (tabA vars rows))
 |r,i,0,hd,hm=>by omega
 | [],i,m+1,hd,hm=>by
  have hi:=len_drop hd;rw[print_table.l9];simp only[bifd];rw[if_neg (by omega),List.take_of_length_le hi]
 |row::r,i,m+1,hd,hm=>by
  obtain⟨hg,hi,hr',ht⟩:=get_drop hd;have hmem:row ∈ rows:=List.mem_of_getElem? hg;have hz:=tabA_len h i;have hz1:=tabA_len h (i+1);have hl:=h.l row hmem;have hv':=h.v;have hr2:=h.r;have ih:=ptab_l1 k2 r (i+1) m hr' (by simpa using hm);have e:=ptab_l2 h hn hn2 hr i row hmem (rows.map eRow) (rows.length:Int) (i:Int) (fun s15 l12 i10 i11=>print_words.g n [[S s15],[S (ofL [41])]] fun s16=>print_table.l9 n m s16 l12 i10 (wr (i11+(1:Int))) k2) row 0 n rfl (by have:=hn.1;omega);rw[print_table.l9];simp only[bifd2,bifd,List.length_map,Int.toNat_natCast,lit];rw[if_pos (by omega),if_pos (by omega),rd_row hg];rw[w2 (b:= [40]) (c:=tabA vars (rows.take i)++32::40::rowA (row.take 0)) (tabA_ne _ _) (by simp) (by simp[rowA]) (by simp[rowA];omega) hn2];simp only[List.length_map];rw[show((0:Nat):Int)=0 from rfl]at e;rw[e,w2 (b:= [41]) (c:=tabA vars (rows.take (i+1))) (by simp) (by simp) (by rw[ht,tabA_snoc];simp[rowT]) (by omega) hn2,wr_succ (by omega)];exact ih
include hv in
theorem ptab_l0 (l4 l5:RW) (k0:ByteArray→RW→RW→Option R): ∀ (r:List ByteArray) (i m:Nat),vars.drop i=r→r.length<m→
 print_table.l3 n m (ofL (vrsA (vars.take i))) (srow vars) (vars.length:Int) (i:Int) l4 l5 k0=k0 (ofL (vrsA vars)) l4 l5
 |r,i,0,hd,hm=>by omega
 | [],i,m+1,hd,hm=>by
  have hi:=len_drop hd;rw[print_table.l3];simp only[bifd];rw[if_neg (by omega),List.take_of_length_le hi]
 |s::r,i,m+1,hd,hm=>by
  obtain⟨hg,hi,hr',ht⟩:=get_drop hd;have hs:=h.n s (List.mem_of_getElem? hg);have hz:=vrsA_len (take_all h.n (i+1));rw[List.length_take]at hz;have ih:=ptab_l0 l4 l5 k0 r (i+1) m hr' (by simpa using hm);have hv2:=h.v;rw[print_table.l3];simp only[bifd2,bifd,srow_len,Int.toNat_natCast,lit];rw[if_pos (by omega),if_pos (by omega),rd_s_ok hg,cat1 (by simp;omega)];rw[w2 (b:= [63]++s.data.toList) (c:=vrsA (vars.take (i+1))) (by simp[vrsA]) (by simp) (by rw[ht,vrsA_snoc];simp) (by omega) hn2,wr_succ (by omega)];exact ih
include hv hr in
theorem ptable_g (K:ByteArray→Option R):print_table.g n (srow vars) (rows.map eRow) K=K (ofL (tabT vars rows)):=by
 have hz:=tabA_len h rows.length;rw[List.take_of_length_le (Nat.le_refl _)]at hz;have hzv:=vrsA_len h.n;have hv2:=h.v;have hr2:=h.r;unfold print_table.g;simp only[srow_len,List.length_map,lit];refine(ptab_l0 h hn hn2 hv (srow vars) (rows.map eRow) _ vars 0 n rfl (by have:=hn.1;omega)).trans ?_;rw[w2 (b:= [41,32,123]) (c:=tabA vars (rows.take 0)) (by simp[vrsA]) (by simp) (by simp[tabA]) (by simp[tabA];omega) hn2];have e:=ptab_l1 h hn hn2 hr (fun s17=>print_words.g n [[S s17],[S (ofL [125,32,125])]] fun s18=>K s18) rows 0 n rfl (by have:=hn.1;omega);rw[show((0:Nat):Int)=0 from rfl]at e;simp only[List.length_map];rw[e,w2 (b:= [125,32,125]) (c:=tabT vars rows) (tabA_ne _ _) (by simp) (by simp[tabT]) (by simp[tabT];omega) hn2]
end
/-- what formula.Text comes to for the parts of an operation -/
theorem formText_g (x:List PartS) {n:Nat} (hn:Fuel n) (hl:x.length<n) (hp: ∀ p ∈ x,p.lt n) (K:ByteArray→Int→Option R):
 formula_Text.g n (x.map ePart) K=if fcheck x=0 then K (ofL (formT x)) 0 else K ⟨#[]⟩ (fcheck x):=by
 unfold formula_Text.g;rw[unRows_mk unPart_mk (rows_part x)];exact if_pos ⟨hn,hl,hp⟩
theorem optext_g {o:OpS} (h:OpF o) {n:Nat} (hn:Fuel n) (hn2:1000<n) (ho:o.lt n) (l:List (List UInt8)) (hl:(l.length:Int)=opNeeds o.f0) (hne: ∀ x ∈ l,x≠ []) (hs:lsz l≤100000000000) (K:ByteArray→Option R):
 print_text.g n o.f0 (o.f1.map eTri) (srow o.f2.f0) (o.f2.f1.map eRow) (o.f3.map ePart) o.f4 o.f5 (srow (l.map ofL)) K=K (ofL (opT o l)):=by
 have hk:=h.k;have hT:=opT_len h l;have hsz:(opT o l).length≤140737488355328:=(by omega);unfold print_text.g;simp only[bifd,srow_len,List.length_map,lit];have hnd:opNeeds o.f0=(if o.f0=1∨o.f0=2 then 0 else if 7≤o.f0∧o.f0≤9 then 1 else if 3≤o.f0∧o.f0≤6 then 2 else -1):=rfl;(have hF:=fun K=>formText_g o.f3 hn ho.g ho.h K);by_cases h1:o.f0=1
 ·simp only[if_pos h1];rw[hF,show opT o l=basT o.f1 from if_pos h1,pbasic_g _ (h.a h1).1 (h.a h1).2 hn hn2 ho.b];split<;>rfl
 simp only[if_neg h1];by_cases h2:o.f0=2
 ·simp only[if_pos h2];rw[hF,show opT o l=tabT o.f2.f0 o.f2.f1 by unfold opT;rw[if_neg h1,if_pos h2],ptable_g (h.b h2) hn hn2 ho.d ho.f];split<;>rfl
 simp only[if_neg h2];rw[if_neg (by omega)]at hnd;have hl0:0<l.length:=by
  by_cases c:7≤o.f0∧o.f0≤9
  ·rw[if_pos c]at hnd;omega
  rw[if_neg c,if_pos (by omega)]at hnd;omega
 have n0:l.getD 0 [] ≠ []:=by
  rw[List.getD_eq_getElem?_getD,List.getElem?_eq_getElem hl0];exact hne _ (List.getElem_mem hl0)
 (have hl1:o.f0≤6→1<l.length:=fun c=>by rw[if_neg (by omega),if_pos (by omega)]at hnd;omega);have n1:o.f0≤6→l.getD 1 [] ≠ []:=fun c=>by
  rw[List.getD_eq_getElem?_getD,List.getElem?_eq_getElem (hl1 c)];exact hne _ (List.getElem_mem (hl1 c))
 have i0:(0:Int)<(l.length:Int):=(by omega);(have i1:o.f0≤6→(1:Int)<(l.length:Int):=fun c=>by have:=hl1 c;omega);(have r0: ∀ K:ByteArray→Option R,rd_s (srow (l.map ofL)) 0 K=K (ofL (l.getD 0 [])):=fun K=>rd_sl hl0);(have r1:o.f0≤6→ ∀ K:ByteArray→Option R,rd_s (srow (l.map ofL)) 1 K=K (ofL (l.getD 1 [])):=fun c K=>rd_sl (hl1 c));simp only[if_pos i0,r0];by_cases h3:o.f0=3
 ·simp only[if_pos h3,if_pos (i1 (by omega)),r1 (show o.f0≤6 by omega)];rw[hF];have e:=wv (n:=n) (c:=opT o l) [[123],l.getD 0 [],l.getD 1 [],[125]] (by simp only[List.forall_mem_cons];exact⟨by decide,n0,n1 (by omega),by decide,fun _ h_=>by cases h_⟩) (by
   unfold opT
   rw[if_neg h1,if_neg h2,if_pos h3]
   simp only[Lib.join_cons,Lib.joinTail,List.map_cons,List.map_nil,List.flatten_cons,List.flatten_nil,List.append_assoc,List.cons_append,List.nil_append,List.append_nil]) (by simp) hsz hn2 K
  split<;>exact e
 simp only[if_neg h3];by_cases h4:o.f0=4
 ·simp only[if_pos h4,if_pos (i1 (by omega)),r1 (show o.f0≤6 by omega)];rw[hF];have e:=wv (n:=n) (c:=opT o l) [[123],l.getD 0 [],[85,78,73,79,78],l.getD 1 [],[125]] (by simp only[List.forall_mem_cons];exact⟨by decide,n0,by decide,n1 (by omega),by decide,fun _ h_=>by cases h_⟩) (by
   unfold opT
   rw[if_neg h1,if_neg h2,if_neg h3,if_pos h4]
   simp only[Lib.join_cons,Lib.joinTail,List.map_cons,List.map_nil,List.flatten_cons,List.flatten_nil,List.append_assoc,List.cons_append,List.nil_append,List.append_nil]) (by simp) hsz hn2 K
  split<;>exact e
 simp only[if_neg h4];by_cases h6:o.f0=6
 ·simp only[if_pos h6,if_pos (i1 (by omega)),r1 (show o.f0≤6 by omega)];rw[hF];have e:=wv (n:=n) (c:=opT o l) [[123],l.getD 0 [],[77,73,78,85,83],l.getD 1 [],[125]] (by simp only[List.forall_mem_cons];exact⟨by decide,n0,by decide,n1 (by omega),by decide,fun _ h_=>by cases h_⟩) (by
   unfold opT
   rw[if_neg h1,if_neg h2,if_neg h3,if_neg h4,if_pos h6]
   simp only[Lib.join_cons,Lib.joinTail,List.map_cons,List.map_nil,List.flatten_cons,List.flatten_nil,List.append_assoc,List.cons_append,List.nil_append,List.append_nil]) (by simp) hsz hn2 K
  split<;>exact e
 simp only[if_neg h6];by_cases h5:o.f0=5
 ·simp only[if_pos h5,if_pos (i1 (by omega)),r1 (show o.f0≤6 by omega)];rw[hF];rcases h.e h5 with he|⟨he,hc⟩
  ·have e0:¬ fcheck o.f3=0:=(by rw[he];decide);rw[if_neg e0];(show(bif true then _ else _)=_);rw[cond_true];exact wv (n:=n) (c:=opT o l) [[123],l.getD 0 [],[79,80,84,73,79,78,65,76,32,123],l.getD 1 [],[125,32,125]] (by simp only[List.forall_mem_cons];exact⟨by decide,n0,by decide,n1 (by omega),by decide,fun _ h_=>by cases h_⟩) (by
    unfold opT
    rw[if_neg h1,if_neg h2,if_neg h3,if_neg h4,if_neg h6,if_pos h5,if_pos he]
    simp only[sOpt,Lib.join_cons,Lib.joinTail,List.map_cons,List.map_nil,List.flatten_cons,List.flatten_nil,List.append_assoc,List.cons_append,List.nil_append,List.append_nil]) (by simp) hsz hn2 K
  obtain⟨_,hfn,_⟩:=formT_is hc;rw[if_pos hc];(show(bif strEq (ofL (formT o.f3)) ⟨#[]⟩then _ else _)=_);rw[strEq_nil,show(ofL (formT o.f3)).data.toList=formT o.f3 from rfl,show(formT o.f3).isEmpty=false by cases hq:formT o.f3 with|nil=>exact absurd hq hfn|cons _ _=>rfl,cond_false];exact wv (n:=n) (c:=opT o l) [[123],l.getD 0 [],[79,80,84,73,79,78,65,76,32,123],l.getD 1 [],[70,73,76,84,69,82,32,40],formT o.f3,[41,32,125,32,125]] (by simp only[List.forall_mem_cons];exact⟨by decide,n0,by decide,n1 (by omega),by decide,hfn,by decide,fun _ h_=>by cases h_⟩) (by
   unfold opT
   rw[if_neg h1,if_neg h2,if_neg h3,if_neg h4,if_neg h6,if_pos h5,if_neg he]
   simp only[sOpt,sFilter,Lib.join_cons,Lib.joinTail,List.map_cons,List.map_nil,List.flatten_cons,List.flatten_nil,List.append_assoc,List.cons_append,List.nil_append,List.append_nil]) (by simp) hsz hn2 K
 simp only[if_neg h5];by_cases h7:o.f0=7
 ·have hc:=h.f (.inl h7);obtain⟨_,hfn,_⟩:=formT_is hc;simp only[if_pos h7];rw[hF,if_pos hc];exact wv (n:=n) (c:=opT o l) [[123],l.getD 0 [],[70,73,76,84,69,82,32,40],formT o.f3,[41,32,125]] (by simp only[List.forall_mem_cons];exact⟨by decide,n0,by decide,hfn,by decide,fun _ h_=>by cases h_⟩) (by
   unfold opT
   rw[if_neg h1,if_neg h2,if_neg h3,if_neg h4,if_neg h6,if_neg h5,if_pos h7]
   simp only[sFilter,Lib.join_cons,Lib.joinTail,List.map_cons,List.map_nil,List.flatten_cons,List.flatten_nil,List.append_assoc,List.cons_append,List.nil_append,List.append_nil]) (by simp) hsz hn2 K
 simp only[if_neg h7];by_cases h8:o.f0=8
 ·have hc:=h.f (.inr h8);have hnm:=h.n (.inl h8);obtain⟨_,hfn,_⟩:=formT_is hc;simp only[if_pos h8];rw[hF,if_pos hc,cat1 (by simp;omega)];exact wv (n:=n) (c:=opT o l) [[123],l.getD 0 [],[66,73,78,68,32,40],formT o.f3,[65,83],[63]++o.f4.data.toList,[41,32,125]] (by simp only[List.forall_mem_cons];exact⟨by decide,n0,by decide,hfn,by decide,by simp,by decide,fun _ h_=>by cases h_⟩) (by
   unfold opT
   rw[if_neg h1,if_neg h2,if_neg h3,if_neg h4,if_neg h6,if_neg h5,if_neg h7,if_pos h8]
   simp only[Lib.join_cons,Lib.joinTail,List.map_cons,List.map_nil,List.flatten_cons,List.flatten_nil,List.append_assoc,List.cons_append,List.nil_append,List.append_nil]) (by simp) hsz hn2 K
 simp only[if_neg h8];have hnm:=h.n (.inr (by omega));have hcat: ∀ K:ByteArray→Option R,(catC (ofL [60]) o.f4 fun s29=>catC s29 (ofL [62]) K)=K (ofL (60::(o.f4.data.toList++ [62]))):=fun K=>by
  rw[cat1 (by simp;omega),catL (by simp[size_toList];omega)];rfl
 rw[hF];cases h9:o.f5 with
 |true=>
  have e:=wv (n:=n) (c:=opT o l) [[123,32,83,69,82,86,73,67,69],[83,73,76,69,78,84],60::(o.f4.data.toList++ [62]),l.getD 0 [],[125]] (by simp only[List.forall_mem_cons];exact⟨by decide,by decide,by simp,n0,by decide,fun _ h_=>by cases h_⟩) (by
   unfold opT
   rw[if_neg h1,if_neg h2,if_neg h3,if_neg h4,if_neg h6,if_neg h5,if_neg h7,if_neg h8,if_pos h9]
   simp only[Lib.join_cons,Lib.joinTail,List.map_cons,List.map_nil,List.flatten_cons,List.flatten_nil,List.append_assoc,List.cons_append,List.nil_append,List.append_nil]) (by simp) hsz hn2 K
  split<;>(rw[cond_true,hcat];exact e)
 |false=>
  have hw:wordsP [ofL [123,32,83,69,82,86,73,67,69],ofL [],ofL (60::(o.f4.data.toList++ [62])),ofL (l.getD 0 []),ofL [125]]=opT o l:=by
   have e:Lib.join [[123,32,83,69,82,86,73,67,69],60::(o.f4.data.toList++ [62]),l.getD 0 [],[125]] [32]=opT o l:=by
    unfold opT;rw[if_neg h1,if_neg h2,if_neg h3,if_neg h4,if_neg h6,if_neg h5,if_neg h7,if_neg h8,if_neg (by rw[h9];simp)];simp only[Lib.join_cons,Lib.joinTail,List.map_cons,List.map_nil,List.flatten_cons,List.flatten_nil,List.append_assoc,List.cons_append,List.nil_append,List.append_nil]
   rw[← e,← wordsP_all (xs:= [[123,32,83,69,82,86,73,67,69],60::(o.f4.data.toList++ [62]),l.getD 0 [],[125]]) (by simp only[List.forall_mem_cons];exact⟨by decide,by simp,n0,by decide,fun _ h_=>by cases h_⟩)];simp only[wordsP,List.map_cons,List.map_nil];congr 2
  have e:=words_g [ofL [123,32,83,69,82,86,73,67,69],ofL [],ofL (60::(o.f4.data.toList++ [62])),ofL (l.getD 0 []),ofL [125]] (by simp) (by rw[hw];exact hsz) hn2 K;rw[hw]at e;split<;>(rw[cond_false,hcat];exact e)
end Go.Proofs.YtcfoebkbahpnaaaGreat.Ab
