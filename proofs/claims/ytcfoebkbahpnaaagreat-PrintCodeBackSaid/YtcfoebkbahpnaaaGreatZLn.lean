/- What the reference's Prefix reads of a term's text, and of other words. -/
import Derived.Test.YtcfoebkbahpnaaaGreatZLm
set_option linter.unusedVariables false
set_option linter.unusedSimpArgs false
namespace Go.Proofs.YtcfoebkbahpnaaaGreat.Ab
open Go Go.Proofs.YtcfoebkbahpnaaaGreat

theorem ch_at {s:ByteArray} {i:Nat} {c:UInt8} {r:List UInt8} (h:s.data.toList.drop i=c::r):ch s (i:Int)=(c.toNat:Int):=(ch_drop h).1
theorem tw_behind {p:UInt8→Bool} {l r:List UInt8} (hl:l.all p=true) (h32:p 32=false) (hr:Behind r):(l++r).takeWhile p=l:=by
 induction l with
 |nil=>
  rcases hr with rfl|⟨q,rfl⟩
  ·rfl
  simp[h32]
 |cons c l ih=>
  simp only[List.all_cons,Bool.and_eq_true]at hl;simp[hl.1,ih hl.2]
theorem typed_g (s1:ByteArray) (x ty la rest:List UInt8) (hty:ty= []∨(okIri ty=true∧la= [])) (hla:la= []∨okLang la=true) (hr:Behind rest) {n:Nat} (hs:(tail2 ⟨2,x,ty,la⟩++rest).length<n) (hn0:40<n) (hn1:n<4611686018427387904) (K:Int→ByteArray→ByteArray→ByteArray→Int→Option R):
 legationref01_typed.g n 2 s1 ⟨#[]⟩ ⟨#[]⟩ (ofL (tail2 ⟨2,x,ty,la⟩++rest)) K=K 2 s1 (ofL ty) (ofL la) ((tail2 ⟨2,x,ty,la⟩).length:Int):=by
 by_cases ht:ty= []
 ·subst ht;by_cases hl:la= []
  ·subst hl;have e:tail2 ⟨2,x,[],[]⟩= []:=rfl;rw[e]at hs ⊢;rw[List.nil_append]at hs ⊢;unfold legationref01_typed.g;rcases hr with rfl|⟨q,rfl⟩
   ·rfl
   have c0:ch (ofL (32::q)) 0=32:=ch_at (s:=ofL (32::q)) (i:=0) (c:=32) (r:=q) rfl;have hz:(ofL (32::q)).size=q.length+1:=(by rw[ofL_size];rfl);simp only[bifd,c0,if_neg (show ¬((32:Int)=94)by decide),if_neg (show ¬((32:Int)=64)by decide),if_pos (show(0:Int)<((ofL (32::q)).size:Int)by omega)];split<;>rfl
  have hlo:=hla.resolve_left hl;have e:tail2 ⟨2,x,[],la⟩=64::la:=by cases la with|nil=>exact absurd rfl hl|cons _ _=>rfl
  rw[e]at hs ⊢;rw[List.cons_append]at hs ⊢;have hz:(ofL (64::(la++rest))).size=la.length+rest.length+1:=(by rw[ofL_size];simp);have c0:ch (ofL (64::(la++rest))) 0=64:=ch_at (s:=ofL (64::(la++rest))) (i:=0) (c:=64) (r:=la++rest) rfl;(have h8:=fun i4 s6 s7 s8 i5 s9 s10 s11 k0=>lang_l (ofL (64::(la++rest))) (by rw[hz];simp at hs;omega) i4 s6 s7 s8 i5 s9 s10 s11 k0 (la++rest) 1 n rfl (by simp at hs ⊢;omega));have h8': ∀ i4 s6 s7 s8 i5 s9 s10 s11 k0,legationref01_typed.l8 n (ofL (64::(la++rest))) 1 i4 s6 s7 s8 i5 s9 s10 s11 k0=k0 (ofL (64::(la++rest))) ((1+la.length:Nat):Int) i4 s6 s7 s8 i5 s9 s10 s11:=fun i4 s6 s7 s8 i5 s9 s10 s11 k0=>by
   have:=h8 i4 s6 s7 s8 i5 s9 s10 s11 k0;rw[tw_behind (okLang_all hlo) (by decide) hr]at this;exact this
  have hx:(ofL (64::(la++rest))).extract 1 (1+la.length)=ofL la:=by
   rw[ext_ofL];congr 1;simp
  unfold legationref01_typed.g;simp only[bifd2,bifd,c0,if_neg (show ¬((64:Int)=94)by decide),if_pos (show(0:Int)<((ofL (64::(la++rest))).size:Int)by omega),if_true,h8',Int.toNat_natCast,hx,rLang_g (ofL la) (show(ofL la).size<n by rw[ofL_size];simp at hs;omega) (show 9<n by omega) hn1,ofL_toList,hlo,cond_true];have hp:(1:Int)≤((1+la.length:Nat):Int)∧((1+la.length:Nat):Int)≤((ofL (64::(la++rest))).size:Int):=(by omega);simp only[if_pos hp];have hcast:((1+la.length:Nat):Int)=(((64::la).length:Nat):Int):=(by simp;omega);rw[hcast];split<;>rfl
 obtain⟨hto,hl⟩:=hty.resolve_left ht;subst hl;have e:tail2 ⟨2,x,ty,[]⟩=94::94::60::(ty++ [62]):=by cases ty with|nil=>exact absurd rfl ht|cons _ _=>simp[tail2]
 rw[e]at hs ⊢;have e2:(94::94::60::(ty++ [62]))++rest=94::94::60::(ty++62::rest):=(by simp);rw[e2]at hs ⊢;generalize hS:ofL (94::94::60::(ty++62::rest))=s4;have hz:s4.size=4+ty.length+rest.length:=(by rw[← hS,ofL_size];simp;omega);have hd:s4.data.toList=94::94::60::(ty++62::rest):=(by rw[← hS];rfl);have c0:ch s4 0=94:=ch_at (s:=s4) (i:=0) (c:=94) (by rw[hd];rfl);have c1:ch s4 1=94:=ch_at (s:=s4) (i:=1) (c:=94) (by rw[hd];rfl);have c2:ch s4 2=60:=ch_at (s:=s4) (i:=2) (c:=60) (by rw[hd];rfl);have h62:(62:UInt8) ∉ 94::94::60::ty:=by
  intro h;rcases List.mem_cons.1 h with h|h
  ·revert h;decide
  rcases List.mem_cons.1 h with h|h
  ·revert h;decide
  rcases List.mem_cons.1 h with h|h
  ·revert h;decide
  exact all_not_mem (okIri_all hto) (by decide) h
 (have hp:=fun K=>place_l s4 (by rw[hz];simp at hs;omega) 62 rest (K (-1)) K (94::94::60::ty) 0 n (by rw[hd];simp) h62 (by simp at hs ⊢;omega));have hp': ∀ K,legationref01_place.g n s4 62 K=K ((3+ty.length:Nat):Int):=fun K=>by
  unfold legationref01_place.g;have:=hp K;rw[show 0+(94::94::60::ty:List UInt8).length=3+ty.length by simp;omega]at this;exact this
 have hx:s4.extract 3 (3+ty.length)=ofL ty:=by
  rw[← hS,ext_ofL];congr 1;simp
 unfold legationref01_typed.g;simp only[bifd2,bifd,c0,c1,c2,hp',if_true,Int.toNat_natCast,hx,rIri_g (ofL ty) (show(ofL ty).size<n by rw[ofL_size];simp at hs;omega) (show 9<n by omega) hn1,ofL_toList,hto,cond_true];rw[if_pos (by omega),if_pos (by omega),if_pos (by omega),if_pos (by omega),if_pos (by omega),if_pos (by omega),if_pos (by omega),wr_succ (by simp at hs;omega)];rw[show((3+ty.length+1:Nat):Int)=((94::94::60::(ty++ [62]):List UInt8).length:Int)by simp;omega];rfl
theorem okText_all {l:List UInt8} (h:okText l=true):l.length≤4096∧l.all textB=true:=by
 unfold okText at h;simp only[Bool.and_eq_true,decide_eq_true_eq]at h;exact h
theorem literal_g (x ty la rest : List UInt8) (hx : okText x = true) (hty : ty = [] ∨ (okIri ty = true ∧ la = [])) (hla : la = [] ∨ okLang la = true) (hr : Behind rest) {n : Nat} (hs : (34 :: (esc x ++ 34 :: tail2 ⟨2, x, ty, la⟩) ++ rest).length < n) (hn0 : 40 < n) (hn1 : n < 4611686018427387904) (K : Int → ByteArray → ByteArray → ByteArray → Int → Option R) :
    legationref01_literal.g n (ofL (34 :: (esc x ++ 34 :: tail2 ⟨2, x, ty, la⟩) ++ rest)) K = K 2 (ofL x) (ofL ty) (ofL la) ((34 :: (esc x ++ 34 :: tail2 ⟨2, x, ty, la⟩)).length : Int) := by
  generalize hT : tail2 ⟨2, x, ty, la⟩ = tl at hs ⊢
  have eL : 34 :: (esc x ++ 34 :: tl) ++ rest = 34 :: (esc x ++ 34 :: (tl ++ rest)) := by simp
  rw [eL] at hs ⊢
  generalize hS : ofL (34 :: (esc x ++ 34 :: (tl ++ rest))) = s
  have hz : s.size = 2 + (esc x).length + tl.length + rest.length := by rw [← hS, ofL_size]; simp; omega
  have hd : s.data.toList = 34 :: (esc x ++ 34 :: (tl ++ rest)) := by rw [← hS]; rfl
  have hsz : (34 :: (esc x ++ 34 :: (tl ++ rest)) : List UInt8).length = s.size := by rw [hz]; simp; omega
  rw [hsz] at hs
  obtain ⟨hxl, hxa⟩ := okText_all hx
  have hxe : x.length ≤ (esc x).length := by
    clear hx hT eL hS hz hd hsz hs hxl hxa
    induction x with
    | nil => simp
    | cons c r ih => rw [esc_cons, List.length_append, List.length_cons]; have : 0 < (escB c).length := by (unfold escB; (repeat' split) <;> simp); 
                     omega
  have hc : ∀ K : Int → Option R, legationref01_closing.g n s K = K ((1 + (esc x).length : Nat) : Int) := fun K => by
    unfold legationref01_closing.g
    exact closing_l s (by omega) (tl ++ rest) _ K x 1 n (by rw [hd]; rfl) (by omega)
  have he : s.extract 1 (1 + (esc x).length) = ofL (esc x) := by rw [← hS, ext_ofL]; congr 1; simp
  have hu : ∀ K : ByteArray → Bool → Option R, legationref01_unescaped.g n (ofL (esc x)) K = K (ofL x) true := fun K => by
    unfold legationref01_unescaped.g
    have := unesc_l (ofL (esc x)) (by rw [ofL_size]; omega) (fun s11 => K s11 true) K x [] 0 n rfl (by omega) (by simp; omega)
    exact this
  have ht : s.extract (1 + (esc x).length + 1) s.size = ofL (tl ++ rest) := by
    rw [hz, ← hS, ext_ofL]; congr 1
    rw [show (34 :: (esc x ++ 34 :: (tl ++ rest)) : List UInt8) = (34 :: (esc x ++ [34])) ++ (tl ++ rest) by simp, List.drop_append_of_le_length (by simp; omega), List.drop_of_length_le (by simp; omega), List.nil_append]
    exact List.take_of_length_le (by simp; omega)
  have hty' := typed_g (ofL x) x ty la rest hty hla hr (n := n) (by rw [hT]; simp; omega) hn0 hn1
  rw [hT] at hty'
  unfold legationref01_literal.g
  simp only [hc, bifd2, bifd3, bifd, bifn, Int.toNat_natCast, he, hu, cond_true, all_g (ofL x) (show (ofL x).size < n by rw [ofL_size]; omega) (show 9 < n by omega) hn1 2 (.inr (.inl rfl)), ofL_toList, show x.all (allP 2) = true from hxa, wr_succ (show 1 + (esc x).length < 9223372036854775807 by omega), ht, ofL_size]
  rw [if_neg (by omega), if_pos (by omega), if_neg (by omega), if_pos (by omega)]
  rw [show (⟨#[]⟩ : ByteArray) = ofL [] from rfl] at hty' ⊢
  rw [hty']
  congr 1
  rw [wr_eq _ (by omega) (by omega)]; simp; omega
theorem iri_pre (x rest:List UInt8) (hx:okIri x=true) {n:Nat} (hs:(60::(x++ [62])++rest).length<n) (hn0:40<n) (hn1:n<4611686018427387904) (K:Int→ByteArray→ByteArray→ByteArray→Int→Option R):
 legationref01_Prefix.g n (ofL (60::(x++ [62])++rest)) K=K 1 (ofL x) (ofL []) (ofL []) ((60::(x++ [62])).length:Int):=by
 have eL:60::(x++ [62])++rest=60::(x++62::rest):=(by simp);rw[eL]at hs ⊢;generalize hS:ofL (60::(x++62::rest))=s;have hz:s.size=2+x.length+rest.length:=(by rw[← hS,ofL_size];simp;omega);have hd:s.data.toList=60::(x++62::rest):=(by rw[← hS];rfl);have hsz:(60::(x++62::rest):List UInt8).length=s.size:=(by rw[hz];simp;omega);rw[hsz]at hs;have c0:ch s 0=60:=ch_at (s:=s) (i:=0) (c:=60) (by rw[hd];rfl);have hp: ∀ K,legationref01_place.g n s 62 K=K ((1+x.length:Nat):Int):=fun K=>by
  unfold legationref01_place.g;have:=place_l s (by omega) 62 rest (K (-1)) K (60::x) 0 n (by rw[hd];simp) (by
   intro h
   rcases List.mem_cons.1 h with h|h
   ·revert h;decide
   exact all_not_mem (okIri_all hx) (by decide) h) (by simp;omega)
  rw[show 0+(60::x:List UInt8).length=1+x.length by simp;omega]at this;exact this
 have he:s.extract 1 (1+x.length)=ofL x:=(by rw[← hS,ext_ofL];congr 1;simp);unfold legationref01_Prefix.g;simp only[bifd2,bifd,c0,hp,if_true,Int.toNat_natCast,he,rIri_g (ofL x) (show(ofL x).size<n by rw[ofL_size];omega) (show 9<n by omega) hn1,ofL_toList,hx,cond_true,wr_succ (show 1+x.length<9223372036854775807 by omega)];rw[if_neg (by omega),if_pos (by omega),if_pos (by omega),if_pos (by omega),if_pos (by omega)];rw[show((1+x.length+1:Nat):Int)=((60::(x++ [62]):List UInt8).length:Int)by simp;omega];rfl
theorem lit_pre (x ty la rest:List UInt8) (hx:okText x=true) (hty:ty= []∨(okIri ty=true∧la= [])) (hla:la= []∨okLang la=true) (hr:Behind rest) {n:Nat} (hs:(34::(esc x++34::tail2 ⟨2,x,ty,la⟩)++rest).length<n) (hn0:40<n) (hn1:n<4611686018427387904) (K:Int→ByteArray→ByteArray→ByteArray→Int→Option R):
 legationref01_Prefix.g n (ofL (34::(esc x++34::tail2 ⟨2,x,ty,la⟩)++rest)) K=K 2 (ofL x) (ofL ty) (ofL la) ((34::(esc x++34::tail2 ⟨2,x,ty,la⟩)).length:Int):=by
 have h:=literal_g x ty la rest hx hty hla hr hs hn0 hn1 K;have c0:ch (ofL (34::(esc x++34::tail2 ⟨2,x,ty,la⟩)++rest)) 0=34:=ch_at (s:=ofL (34::(esc x++34::tail2 ⟨2,x,ty,la⟩)++rest)) (i:=0) rfl;have hz:2≤(ofL (34::(esc x++34::tail2 ⟨2,x,ty,la⟩)++rest)).size:=(by rw[ofL_size];simp;omega);unfold legationref01_Prefix.g;simp only[bifd,c0];rw[if_neg (by omega),if_pos (by omega),if_neg (by decide),if_pos (by decide)];exact h
theorem var_pre (nm rest:List UInt8) (hx:okName nm=true) (hr:Behind rest) {n:Nat} (hs:(63::nm++rest).length<n) (hn0:40<n) (hn1:n<4611686018427387904) (K:Int→ByteArray→ByteArray→ByteArray→Int→Option R):
 legationref01_Prefix.g n (ofL (63::nm++rest)) K=K 4 (ofL nm) (ofL []) (ofL []) ((63::nm).length:Int):=by
 have h32:=okName_len hx;have hne:0<nm.length:=List.length_pos_iff.2 h32.2;rw[List.cons_append]at hs ⊢;generalize hS:ofL (63::(nm++rest))=s;have hz:s.size=1+nm.length+rest.length:=(by rw[← hS,ofL_size];simp;omega);have hd:s.data.toList=63::(nm++rest):=(by rw[← hS];rfl);have hsz:(63::(nm++rest):List UInt8).length=s.size:=(by rw[hz];simp;omega);rw[hsz]at hs;have c0:ch s 0=63:=ch_at (s:=s) (i:=0) (c:=63) (by rw[hd];rfl);have he:s.extract 1 s.size=ofL (nm++rest):=by
  rw[hz,← hS,ext_ofL];congr 1;exact List.take_of_length_le (by simp;omega)
 have he2:s.extract 1 (nm.length+1)=ofL nm:=(by rw[← hS,ext_ofL];congr 1;simp);unfold legationref01_Prefix.g;simp only[bifd2,bifd,c0,he,nameLen_g nm rest hx hr (show(nm++rest).length<n by simp;omega) hn0 hn1,wr_succ (show nm.length<9223372036854775807 by omega),Int.toNat_natCast,he2];rw[if_neg (by omega),if_pos (by omega),if_neg (by decide),if_neg (by decide),if_pos (by decide),if_pos (by omega),if_pos (by omega),if_pos (by omega)];rw[show((nm.length+1:Nat):Int)=((63::nm:List UInt8).length:Int)by simp];rfl
/-- words that no term begins with -/
theorem none_pre (c:UInt8) (r:List UInt8) (h1:c.toNat≠60) (h2:c.toNat≠34) (h3:c.toNat≠63) (h4:c.toNat≠95) (n:Nat) (K:Int→ByteArray→ByteArray→ByteArray→Int→Option R):
 legationref01_Prefix.g n (ofL (c::r)) K=K 0 (ofL []) (ofL []) (ofL []) 0:=by
 have c0:ch (ofL (c::r)) 0=(c.toNat:Int):=ch_at (s:=ofL (c::r)) (i:=0) rfl;have hz:(ofL (c::r)).size=r.length+1:=(by rw[ofL_size];rfl);unfold legationref01_Prefix.g;simp only[bifd,c0];split
 ·rfl
 rw[if_pos (by omega),if_neg (by omega),if_neg (by omega),if_neg (by omega),if_neg (by omega)];rfl
theorem place_any (s:ByteArray) (hs:s.size<4611686018427387904) (c:UInt8) (k0:Option R) (K:Int→Option R): ∀ (r:List UInt8) (i m:Nat),s.data.toList.drop i=r→r.length<m→
 legationref01_place.l2 m s (c.toNat:Int) (i:Int) k0 K=k0∨ ∃ j,i≤j∧j<s.size∧s.data.toList[j]? =some c∧legationref01_place.l2 m s (c.toNat:Int) (i:Int) k0 K=K (j:Int)
 |r,i,0,hd,hm=>by omega
 | [],i,m+1,hd,hm=>by
  have:=drop_size hd;rw[legationref01_place.l2];simp only[bifd];rw[if_neg (by omega)];exact .inl rfl
 |d::r,i,m+1,hd,hm=>by
  obtain⟨hb,his,hr⟩:=ch_drop hd;rw[legationref01_place.l2];simp only[bifd2,bifd,hb,wr_succ (show i<9223372036854775807 by omega)];rw[if_pos (by omega),if_pos (by omega)];by_cases h:(d.toNat:Int)=(c.toNat:Int)
  ·refine .inr ⟨i,Nat.le_refl _,his,?_,by rw[if_pos h]⟩;have h2:s.data.toList[i]? =some d:=by
    have:=congrArg List.head? hd;simpa using this
   rw[h2,UInt8.toNat_inj.1 (show d.toNat=c.toNat by omega)]
  rw[if_neg h];rcases place_any s hs c k0 K r (i+1) m hr (by simpa using hm)with e|⟨j,a,b,e1,e2⟩
  ·exact .inl e
  exact .inr ⟨j,by omega,b,e1,e2⟩
/-- < and <= begin no IRI: a blank follows -/
theorem less_pre (w r:List UInt8) (hw:w= []∨w= [61]) {n:Nat} (hs:(60::(w++32::r)).length<n) (hn0:40<n) (hn1:n<4611686018427387904) (K:Int→ByteArray→ByteArray→ByteArray→Int→Option R):
 legationref01_Prefix.g n (ofL (60::(w++32::r))) K=K 0 (ofL []) (ofL []) (ofL []) 0:=by
 generalize hS:ofL (60::(w++32::r))=s;have hd:s.data.toList=60::(w++32::r):=(by rw[← hS];rfl);have hz:s.size=(60::(w++32::r):List UInt8).length:=(by rw[← hS,ofL_size]);rw[← hz]at hs;have hz2:s.size=2+w.length+r.length:=(by rw[hz];simp;omega);have c0:ch s 0=60:=ch_at (s:=s) (i:=0) (c:=60) (by rw[hd];rfl);have key: ∀ (k0:Option R) (K':Int→Option R),(∀ j:Nat,w.length+2≤j→j<s.size→K' (j:Int)=k0)→legationref01_place.l2 n s 62 0 k0 K'=k0:=fun k0 K' hK=>by
  rcases place_any s (by omega) 62 k0 K' _ 0 n rfl (by rw[List.drop_zero,size_toList];exact hs)with e|⟨j,_,hj,e1,e2⟩
  ·exact e
  refine e2.trans (hK j ?_ hj);rw[hd]at e1;rcases hw with rfl|rfl
  ·match j,e1 with
   |0,e1=>simp at e1
   |1,e1=>simp at e1
   |j+2,_=>simp
  match j,e1 with
  |0,e1=>simp at e1
  |1,e1=>simp at e1
  |2,e1=>simp at e1
  |j+3,_=>simp
 unfold legationref01_Prefix.g;simp only[bifd2,bifd,c0,if_true];rw[if_neg (by omega),if_pos (by omega)];unfold legationref01_place.g;rw[key _ _ (fun j hj hj2=>?_)]
 ·rfl
 have hx:s.extract 1 j=ofL ((w++32::r).take (j - 1)):=(by rw[← hS,ext_ofL];rfl);have hno:okIri ((w++32::r).take (j - 1))=false:=by
  have hm:(32:UInt8) ∈ (w++32::r).take (j - 1):=by
   rw[List.take_append,List.mem_append];right;obtain⟨i,hi⟩: ∃ i,j - 1 - w.length=i+1:=⟨j - 2 - w.length,by omega⟩;rw[hi];exact List.mem_cons_self ..
  cases h:okIri ((w++32::r).take (j - 1))with
  |false=>rfl
  |true=>exact absurd hm (all_not_mem (okIri_all h) (by decide))
 simp only[Int.toNat_natCast,hx,rIri_g (ofL ((w++32::r).take (j - 1))) (show(ofL ((w++32::r).take (j - 1))).size<n by rw[ofL_size,List.length_take];omega) (show 9<n by omega) hn1,ofL_toList,hno,cond_false];rw[if_pos (by omega),if_pos (by omega)];rw[if_neg (by decide)]
end Go.Proofs.YtcfoebkbahpnaaaGreat.Ab
