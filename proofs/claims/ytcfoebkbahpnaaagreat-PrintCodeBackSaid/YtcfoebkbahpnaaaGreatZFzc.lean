import Derived.Test.YtcfoebkbahpnaaaGreatZLn
import Derived.Test.YtcfoebkbahpnaaaGreatZFzb
import Derived.Test.YtcfoebkbahpnaaaGreatZHf
/- What the reference's word, Next and Lex read of words with a blank between any two. -/
set_option linter.unusedVariables false
set_option linter.unusedSimpArgs false
namespace Go.Proofs.YtcfoebkbahpnaaaGreat.Ab
open Go Go.Proofs.YtcfoebkbahpnaaaGreat

structure TokS where
  k : Int
  x : ByteArray
  t : TermS
  a : Int
def eTok (w : TokS) : List DV := [I w.k, S w.x, I w.t.f0, S w.t.f1, S w.t.f2, S w.t.f3, I w.a]
def t0S : TermS := ⟨0, ⟨#[]⟩, ⟨#[]⟩, ⟨#[]⟩⟩
def wtext (w : TokS) : List UInt8 := if w.k = 2 then 63 :: w.x.data.toList else if w.k = 3 then ttext (T w.t) else w.x.data.toList
def signs : List (List UInt8) := [[123], [125], [40], [41], [46], [44], [33], [45], [38, 38], [124, 124], [61], [33, 61], [60], [62], [60, 61], [62, 61], [43], [42], [47]]
inductive WordOK : TokS → Prop
  | var {w : TokS} (hk : w.k = 2) (ht : w.t = t0S) (hx : okName w.x.data.toList = true) : WordOK w
  | term {w : TokS} (hk : w.k = 3) (hx : w.x = ⟨#[]⟩) (ht : okTm (T w.t) = true) (hi : w.t.f0 = 1 ∨ w.t.f0 = 2) : WordOK w
  | word {w : TokS} (hk : w.k = 1) (ht : w.t = t0S) (hx : w.x.data.toList.all isLet = true) (hn : w.x.data.toList ≠ []) : WordOK w
  | sign {w : TokS} (hk : w.k = 5) (ht : w.t = t0S) (hx : w.x.data.toList ∈ signs) : WordOK w
/-- a word may be the last one -/
def Last (w : TokS) : Prop := w.x.data.toList = [125]
theorem rsign_g (x rest:List UInt8) (hx:x ∈ signs) (hr:Behind rest) {n:Nat} (hn:40<n) (hn1:n<4611686018427387904) (K:Int→Option R):legationref05_sign.g n (ofL (x++rest)) K=K (x.length:Int):=by
 (have hIs: ∀ (c:UInt8) (K:Bool→Option R),legationref01_Is.g n (c.toNat:Int) ⟨#[123,125,40,41,46,44,42,43,45,47,61,60,62,33]⟩ K=K (([123,125,40,41,46,44,42,43,45,47,61,60,62,33]:List UInt8).any fun x=>x.toNat==c.toNat):=fun c K=>is_g c ⟨#[123,125,40,41,46,44,42,43,45,47,61,60,62,33]⟩ (show 14<n by omega) hn1 K);have one: ∀ c:UInt8,(([123,125,40,41,46,44,42,43,45,47,61,60,62,33]:List UInt8).any fun x=>x.toNat==c.toNat)=true→legationref05_sign.g n (ofL ([c]++rest)) K=K (([c]:List UInt8).length:Int):=fun c hc=>by
  have c0:ch (ofL ([c]++rest)) 0=(c.toNat:Int):=ch_at (s:=ofL ([c]++rest)) (i:=0) (c:=c) rfl;have hz:(ofL ([c]++rest)).size=rest.length+1:=(by rw[ofL_size];simp);unfold legationref05_sign.g;simp only[c0,hIs,hc,cond_true];rcases hr with rfl|⟨q,rfl⟩
  ·simp only[bifd];rw[if_neg (by rw[hz];simp),if_pos (by rw[hz];simp)];rfl
  have he:(ofL ([c]++32::q)).extract 0 2=ofL [c,32]:=(by rw[ext_ofL];rfl);have hb: ∀ a b:UInt8,b≠32→strEq (ofL [c,32]) ⟨#[a,b]⟩=false:=fun a b hb=>by
   rw[strEq_dec];exact decide_eq_false (fun e=>hb (by have: [c,32]= [a,b]:=e;simp at this;exact this.2.symm))
  rw[List.length_cons]at hz;simp only[he,bifd];rw[if_pos (by omega),if_pos (by omega),hb _ _ (by decide),hb _ _ (by decide),hb _ _ (by decide),hb _ _ (by decide),hb _ _ (by decide)];simp only[cond_false];rw[if_pos (by omega)];rfl
 have two: ∀ a b:UInt8,([a,b]= [60,61]∨ [a,b]= [62,61]∨ [a,b]= [33,61]∨ [a,b]= [38,38]∨ [a,b]= [124,124])→legationref05_sign.g n (ofL ([a,b]++rest)) K=K (([a,b]:List UInt8).length:Int):=fun a b hab=>by
  have hz:(ofL ([a,b]++rest)).size=rest.length+2:=(by rw[ofL_size];simp);have he:(ofL ([a,b]++rest)).extract 0 2=ofL [a,b]:=(by rw[ext_ofL];simp);unfold legationref05_sign.g;simp only[he,bifd];rw[if_pos (by omega),if_pos (by omega)];rcases hab with h|h|h|h|h<;>(simp at h;obtain⟨rfl,rfl⟩:=h;rfl)
 simp only[signs,List.mem_cons,List.not_mem_nil,or_false]at hx;rcases hx with rfl|rfl|rfl|rfl|rfl|rfl|rfl|rfl|rfl|rfl|rfl|rfl|rfl|rfl|rfl|rfl|rfl|rfl|rfl
 ·exact one 123 (by decide)
 ·exact one 125 (by decide)
 ·exact one 40 (by decide)
 ·exact one 41 (by decide)
 ·exact one 46 (by decide)
 ·exact one 44 (by decide)
 ·exact one 33 (by decide)
 ·exact one 45 (by decide)
 ·exact two 38 38 (by decide)
 ·exact two 124 124 (by decide)
 ·exact one 61 (by decide)
 ·exact two 33 61 (by decide)
 ·exact one 60 (by decide)
 ·exact one 62 (by decide)
 ·exact two 60 61 (by decide)
 ·exact two 62 61 (by decide)
 ·exact one 43 (by decide)
 ·exact one 42 (by decide)
 exact one 47 (by decide)
theorem let_not {c:UInt8} (h:isLet c=true):c.toNat≠60∧c.toNat≠34∧c.toNat≠63∧c.toNat≠95∧spB c=false:=by
 unfold isLet at h;simp only[Bool.or_eq_true,Bool.and_eq_true,decide_eq_true_eq]at h;refine⟨by omega,by omega,by omega,by omega,?_⟩;unfold spB;rw[beq_eq_false_iff_ne.2 (by omega),beq_eq_false_iff_ne.2 (by omega),beq_eq_false_iff_ne.2 (by omega)];rfl
theorem word_g (w:TokS) (hw:WordOK w) (rest:List UInt8) (hr:Behind rest) (hl:rest= []→Last w) {n:Nat} (hs:(wtext w++rest).length<n) (hn0:40<n) (hn1:n<4611686018427387904) (K:Int→ByteArray→Int→ByteArray→ByteArray→ByteArray→Int→Int→Option R):
 legationref05_word.g n (ofL (wtext w++rest)) K=K w.k w.x w.t.f0 w.t.f1 w.t.f2 w.t.f3 0 ((wtext w).length:Int):=by
 obtain⟨k,x,t,a⟩:=w;cases hw with
 |var hk ht hx=>
  simp only at hk ht hx;subst hk;subst ht;have e:wtext ⟨2,x,t0S,a⟩=63::x.data.toList:=rfl;rw[e]at hs ⊢;(have h:=fun K=>var_pre x.data.toList rest hx hr hs hn0 hn1 K);unfold legationref05_word.g;rw[h];simp only[bifd];rw[if_pos (by simp only[List.length_cons];omega),if_pos trivial,ofL_data];try rfl
 |term hk hx ht hi=>
  simp only at hk hx ht hi;subst hk;subst hx;have e:wtext ⟨3,⟨#[]⟩,t,a⟩=ttext (T t):=rfl;rw[e]at hs ⊢;have hp:legationref01_Prefix.g n (ofL (ttext (T t)++rest))=fun K=>K t.f0 t.f1 t.f2 t.f3 ((ttext (T t)).length:Int):=by
   funext K;obtain⟨f0,f1,f2,f3⟩:=t;rcases hi with h1|h2
   ·simp only at h1;subst h1;have ho:=okTm_other ht (show(1:Int) ≠2 by decide);have e2:f2=⟨#[]⟩:=(by have:=ho.1;rw[← ofL_data f2];exact congrArg ofL this);have e3:f3=⟨#[]⟩:=(by have:=ho.2.1;rw[← ofL_data f3];exact congrArg ofL this);subst e2;subst e3;have et:ttext (T ⟨1,f1,⟨#[]⟩,⟨#[]⟩⟩)=60::(f1.data.toList++ [62]):=rfl;rw[et]at hs ⊢;rw[iri_pre f1.data.toList rest (ho.2.2.2.2.1 rfl) hs hn0 hn1,ofL_data];rfl
   simp only at h2;subst h2;have ho:=okTm_two ht rfl;have et:ttext (T ⟨2,f1,f2,f3⟩)=34::(esc f1.data.toList++34::tail2 ⟨2,f1.data.toList,f2.data.toList,f3.data.toList⟩):=rfl;rw[et]at hs ⊢;rw[lit_pre f1.data.toList f2.data.toList f3.data.toList rest ho.1 ho.2.1 ho.2.2 hr hs hn0 hn1,ofL_data,ofL_data,ofL_data]
  have hne:0<(ttext (T t)).length:=List.length_pos_iff.2 fun h=>by
   have:=(ttext_ne ht).1 h;have e0:t.f0=0:=this;omega
  unfold legationref05_word.g;rw[hp];simp only[bifd];rw[if_pos (by omega),if_neg (by omega),if_pos (by omega)]
 |word hk ht hx hn=>
  simp only at hk ht hx hn;subst hk;subst ht;have e:wtext ⟨1,x,t0S,a⟩=x.data.toList:=rfl;rw[e]at hs ⊢;(have hrun: ∀ K:Int→Option R,legationref05_Run.g n (ofL (x.data.toList++rest)) 0 2 K=K ((((ofL (x.data.toList++rest)).data.toList.drop 0).takeWhile (runP 2)).length:Int):=fun K=>run_g (ofL (x.data.toList++rest)) (n:=n) (by rw[ofL_size];exact hs) hn1 0 (Nat.zero_le _) 2 (.inr (.inl rfl)) K);rw[show((ofL (x.data.toList++rest)).data.toList.drop 0).takeWhile (runP 2)=x.data.toList from tw_behind hx (by decide) hr]at hrun;have hex:(ofL (x.data.toList++rest)).extract 0 x.data.toList.length=x:=by
   rw[ext_ofL];simp[ofL_data]
  have hpre: ∀ K,legationref01_Prefix.g n (ofL (x.data.toList++rest)) K=K 0 (ofL []) (ofL []) (ofL []) 0:=fun K=>by
   cases hl:x.data.toList with
   |nil=>exact absurd hl hn
   |cons c r=>
    rw[hl]at hx;simp only[List.all_cons,Bool.and_eq_true]at hx;obtain⟨h1,h2,h3,h4,_⟩:=let_not hx.1;exact none_pre c (r++rest) h1 h2 h3 h4 n K
  have hp:0<x.data.toList.length:=List.length_pos_iff.2 hn;unfold legationref05_word.g;rw[hpre];simp only[bifd,bifd2,if_neg (show ¬((0:Int)<0)by decide),hrun,Int.toNat_natCast,hex,show((0:Int)).toNat=0 from rfl];rw[if_pos (by omega),if_pos (by rw[ofL_size,List.length_append];omega)];rfl
 |sign hk ht hx=>
  simp only at hk ht hx;subst hk;subst ht;have e:wtext ⟨5,x,t0S,a⟩=x.data.toList:=rfl;rw[e]at hs ⊢;(have hrun: ∀ (kd:Int) (hk:kd=1∨kd=2∨kd=3) (K:Int→Option R),legationref05_Run.g n (ofL (x.data.toList++rest)) 0 kd K=K ((((ofL (x.data.toList++rest)).data.toList.drop 0).takeWhile (runP kd)).length:Int):=fun kd hk K=>run_g (ofL (x.data.toList++rest)) (n:=n) (by rw[ofL_size];exact hs) hn1 0 (Nat.zero_le _) kd hk K);(have hsg:=fun K=>rsign_g x.data.toList rest hx hr hn0 hn1 K);have hex:(ofL (x.data.toList++rest)).extract 0 x.data.toList.length=x:=by
   rw[ext_ofL];simp[ofL_data]
  have hfirst: ∃ c r,x.data.toList=c::r∧isLet c=false∧isDig c=false∧c.toNat≠34∧c.toNat≠63∧c.toNat≠95∧(c.toNat=60→c=60∧(r= []∨r= [61])):=by
   simp only[signs,List.mem_cons,List.not_mem_nil,or_false]at hx;rcases hx with h|h|h|h|h|h|h|h|h|h|h|h|h|h|h|h|h|h|h<;>exact⟨_,_,h,by decide,by decide,by decide,by decide,by decide,by decide⟩
  obtain⟨c,r,hcr,hL,hD,q1,q2,q3,q4⟩:=hfirst;have hpre: ∀ K,legationref01_Prefix.g n (ofL (x.data.toList++rest)) K=K 0 (ofL []) (ofL []) (ofL []) 0:=fun K=>by
   rw[hcr];by_cases h60:c.toNat=60
   ·obtain⟨rfl,hr2⟩:=q4 h60;rcases hr with rfl|⟨q,rfl⟩
    ·have:=hl rfl;rw[show Last ⟨5,x,t0S,a⟩=(x.data.toList= [125])from rfl,hcr]at this;cases this
    rw[hcr]at hs;exact less_pre r q hr2 (by simpa using hs) hn0 hn1 K
   exact none_pre c (r++rest) h60 q1 q2 q3 n K
  have r2:((ofL (x.data.toList++rest)).data.toList.drop 0).takeWhile (runP 2)= []:=by
   (show(x.data.toList++rest).takeWhile isLet= []);rw[hcr,List.cons_append,List.takeWhile_cons,hL];rfl
  have r3:((ofL (x.data.toList++rest)).data.toList.drop 0).takeWhile (runP 3)= []:=by
   (show(x.data.toList++rest).takeWhile isDig= []);rw[hcr,List.cons_append,List.takeWhile_cons,hD];rfl
  (have h2:=fun K=>hrun 2 (.inr (.inl rfl)) K);(have h3:=fun K=>hrun 3 (.inr (.inr rfl)) K);rw[r2]at h2;rw[r3]at h3;unfold legationref05_word.g;rw[hpre];simp only[bifd,bifd2,if_neg (show ¬((0:Int)<0)by decide),h2,h3,hsg,Int.toNat_natCast,hex,List.length_nil,show((0:Int)).toNat=0 from rfl];rw[if_neg (by decide),if_neg (by decide),if_pos (by rw[ofL_size,List.length_append];omega)];rfl
end Go.Proofs.YtcfoebkbahpnaaaGreat.Ab

/- What the reference's Next and Lex read of words with a blank between any two. -/
set_option linter.unusedVariables false
set_option linter.unusedSimpArgs false
namespace Go.Proofs.YtcfoebkbahpnaaaGreat.Ab
open Go Go.Proofs.YtcfoebkbahpnaaaGreat

theorem first_ns {w:TokS} (hw:WordOK w): ∃ c r,wtext w=c::r∧spB c=false:=by
 obtain⟨k,x,t,a⟩:=w;cases hw with
 |var hk ht hx=>simp only at hk;subst hk;exact⟨63,x.data.toList,rfl,by decide⟩
 |term hk hx ht hi=>
  simp only at hk hi ht;subst hk;rcases hi with h|h
  ·exact⟨60,t.f1.data.toList++ [62],by show ttext (T t)=_;unfold ttext;rw[if_pos (show(T t).k=1 from h)];rfl,by decide⟩
  have h':(T t).k=2:=h;exact⟨34,_,by show ttext (T t)=_;unfold ttext;rw[if_neg (by omega),if_neg (by omega),if_neg (by omega),if_pos h'],by decide⟩
 |word hk ht hx hn=>
  simp only at hk hx hn;subst hk;(show ∃ c r,x.data.toList=c::r∧_);cases hl:x.data.toList with
  |nil=>exact absurd hl hn
  |cons c r=>
   rw[hl]at hx;simp only[List.all_cons,Bool.and_eq_true]at hx;exact⟨c,r,rfl,(let_not hx.1).2.2.2.2⟩
 |sign hk ht hx=>
  simp only at hk hx;subst hk;(show ∃ c r,x.data.toList=c::r∧_);simp only[signs,List.mem_cons,List.not_mem_nil,or_false]at hx;rcases hx with h|h|h|h|h|h|h|h|h|h|h|h|h|h|h|h|h|h|h<;>exact⟨_,_,h,by decide⟩
theorem next_g (s:ByteArray) (w:TokS) (hw:WordOK w) (rest:List UInt8) (hr:Behind rest) (hl:rest= []→Last w) (at_:Nat) (hd:s.data.toList.drop at_=wtext w++rest) {n:Nat} (hs:s.size<n) (hn0:40<n) (hn1:n<4611686018427387904) (K:Int→ByteArray→Int→ByteArray→ByteArray→ByteArray→Int→Int→Int→Option R):
 legationref05_Next.g n s (at_:Int) K=K w.k w.x w.t.f0 w.t.f1 w.t.f2 w.t.f3 (at_:Int) ((at_+(wtext w).length:Nat):Int) 0:=by
 obtain⟨c,r,hc,hsp⟩:=first_ns hw;have hlen:(s.data.toList.drop at_).length=s.size - at_:=(by rw[List.length_drop,size_toList]);have hpos:at_<s.size:=(by rw[hd,hc]at hlen;simp at hlen;omega);have hrun: ∀ K:Int→Option R,legationref05_Run.g n s (at_:Int) 1 K=K 0:=fun K=>by
  rw[run_g s hs hn1 at_ (by omega) 1 (.inl rfl),hd,hc,List.cons_append,List.takeWhile_cons,show runP 1 c=false from hsp];rfl
 have hex:s.extract at_ s.size=ofL (wtext w++rest):=by
  rw[← ofL_data s,ext_ofL,ofL_data,hd];congr 1;exact List.take_of_length_le (by rw[← hd,hlen];omega)
 have hsz:(wtext w++rest).length≤s.size:=(by rw[← hd,hlen];omega);have hsz2:(wtext w).length+rest.length=s.size - at_:=(by rw[← List.length_append,← hd,hlen]);unfold legationref05_Next.g;simp only[hrun,bifd,bifd3,Int.add_zero,wr_nat (show at_<9223372036854775808 by omega),Int.toNat_natCast,hex,word_g w hw rest hr hl (show(wtext w++rest).length<n by omega) hn0 hn1];have hw0:0<(wtext w).length:=(by rw[hc];simp);rw[if_neg (by omega),if_neg (by omega),if_neg (by omega),if_pos (by omega),if_neg (by omega)];congr 1;rw[wr_eq _ (by omega) (by omega)];omega
/-- words with a blank between any two -/
def J (ws : List TokS) : List UInt8 := Lib.join (ws.map wtext) [32]
theorem J_one (w:TokS):J [w]=wtext w:=by simp[J,Lib.join_cons,Lib.joinTail]
theorem J_cons (w v:TokS) (r:List TokS):J (w::v::r)=wtext w++32::J (v::r):=by simp[J,Lib.join_cons,Lib.joinTail]
def toksAt : Nat → List TokS → List TokS
  | _, [] => []
  | p, w :: r => ⟨w.k, w.x, w.t, (p : Int)⟩ :: toksAt (p + (wtext w).length + 1) r
def LastOK : List TokS → Prop
  | [] => True
  | [w] => Last w
  | _ :: v :: r => LastOK (v :: r)
theorem lex_l (s:ByteArray) {n:Nat} (hs:s.size<n) (h4:s.size≤4096) (hn0:5000<n) (hn1:n<4611686018427387904) (k0:RW→Option R) (kr:RW→Int→Int→Option R): ∀ (ws:List TokS) (L:List TokS) (at_ m:Nat),(∀ w ∈ ws,WordOK w)→LastOK ws→ws≠ []→s.data.toList.drop at_=J ws→L.length≤at_→ws.length<m→
 legationref05_Lex.l5 n m s (L.map eTok) (at_:Int) k0 kr=k0 ((L++toksAt at_ ws).map eTok)
 |ws,L,at_,0,hw,hlo,hne,hd,hL,hm=>by omega
 | [],L,at_,m+1,hw,hlo,hne,hd,hL,hm=>absurd rfl hne
 | [w],L,at_,m+1,hw,hlo,hne,hd,hL,hm=>by
  have hw1:=hw w (List.mem_cons_self ..);rw[J_one]at hd;have hlen:(s.data.toList.drop at_).length=s.size - at_:=(by rw[List.length_drop,size_toList]);obtain⟨c,r,hc,hsp⟩:=first_ns hw1;have hw0:0<(wtext w).length:=(by rw[hc];simp);rw[hd]at hlen;have hm1:1≤m:=(by simp at hm;omega);obtain⟨m',rfl⟩: ∃ m',m=m'+1:=⟨m - 1,by omega⟩;have hrun: ∀ K:Int→Option R,legationref05_Run.g n s ((at_+(wtext w).length:Nat):Int) 1 K=K 0:=fun K=>by
   rw[run_g s hs hn1 _ (by omega) 1 (.inl rfl),List.drop_eq_nil_of_le (by rw[size_toList];omega)];rfl
  rw[legationref05_Lex.l5];simp only[bifd,bifn,next_g s w hw1 [] (.inl rfl) (fun _=>hlo) at_ (by rw[hd,List.append_nil]) hs (show 40<n by omega) hn1,List.length_map];rw[if_pos (by omega),if_pos trivial,if_neg (by omega),appC_ok (by simp;omega) (by simp;omega)];rw[hrun,legationref05_Lex.l5];simp only[bifd,Int.add_zero,wr_nat (show at_+(wtext w).length<9223372036854775808 by omega)];rw[if_neg (by omega)];congr 1;simp[toksAt,eTok,DV.dis1]
 |w::v::r,L,at_,m+1,hw,hlo,hne,hd,hL,hm=>by
  have hw1:=hw w (List.mem_cons_self ..);have hv1:=hw v (List.mem_cons_of_mem _ (List.mem_cons_self ..));rw[J_cons]at hd;have hlen:(s.data.toList.drop at_).length=s.size - at_:=(by rw[List.length_drop,size_toList]);obtain⟨c,q,hc,hsp⟩:=first_ns hw1;obtain⟨d,p,hdv,hspv⟩:=first_ns hv1;have hw0:0<(wtext w).length:=(by rw[hc];simp);have hJ:J (v::r)=d::((J (v::r)).drop 1):=by
   cases r with
   |nil=>rw[J_one,hdv];rfl
   |cons u r=>rw[J_cons,hdv];rfl
  rw[hd]at hlen;simp only[List.length_append,List.length_cons]at hlen;have hd2:s.data.toList.drop (at_+(wtext w).length)=32::J (v::r):=(by rw[← List.drop_drop,hd,List.drop_left]);have hd3:s.data.toList.drop (at_+(wtext w).length+1)=J (v::r):=(by rw[← List.drop_drop,hd2];rfl);have hrun: ∀ K:Int→Option R,legationref05_Run.g n s ((at_+(wtext w).length:Nat):Int) 1 K=K 1:=fun K=>by
   rw[run_g s hs hn1 _ (by omega) 1 (.inl rfl),hd2,List.takeWhile_cons,show runP 1 32=true from by decide,hJ];simp only[if_true,List.takeWhile_cons,show runP 1 d=false from hspv];rfl
  have ih:=lex_l s hs h4 hn0 hn1 k0 kr (v::r) (L++ [(⟨w.k,w.x,w.t,(at_:Int)⟩:TokS)]) (at_+(wtext w).length+1) m (fun u hu=>hw u (List.mem_cons_of_mem _ hu)) hlo (by simp) hd3 (by simp;omega) (by simpa using hm);rw[legationref05_Lex.l5];simp only[bifd,bifn,next_g s w hw1 (32::J (v::r)) (.inr ⟨_,rfl⟩) (fun h=>by cases h) at_ hd hs (show 40<n by omega) hn1,List.length_map];rw[if_pos (by omega),if_pos trivial,if_neg (by omega),appC_ok (by simp;omega) (by simp;omega)];rw[hrun,wr_succ (show at_+(wtext w).length<9223372036854775807 by omega)];rw[show(List.map eTok L++List.map (List.map DV.dis1) [[I w.k,S w.x,I w.t.f0,S w.t.f1,S w.t.f2,S w.t.f3,I (at_:Int)]])=(L++ [(⟨w.k,w.x,w.t,(at_:Int)⟩:TokS)]).map eTok by simp[eTok,DV.dis1],ih];congr 2;simp[toksAt]
theorem lex_g (ws:List TokS) (hw: ∀ w ∈ ws,WordOK w) (hlo:LastOK ws) (hne:ws≠ []) (h4:(J ws).length≤4096) {n:Nat} (hn0:5000<n) (hn1:n<4611686018427387904) (K:RW→Int→Int→Option R):
 legationref05_Lex.g n (ofL (J ws)) K=K ((toksAt 0 ws).map eTok) 0 0:=by
 have hz:(ofL (J ws)).size=(J ws).length:=ofL_size _;have hwl: ∀ (ws:List TokS),(∀ w ∈ ws,WordOK w)→ws.length≤(J ws).length:=by
  intro ws;induction ws with
  |nil=>intro _;simp[J]
  |cons w r ih=>
   intro hw;obtain⟨c,q,hc,_⟩:=first_ns (hw w (List.mem_cons_self ..));(have hih:=ih fun u hu=>hw u (List.mem_cons_of_mem _ hu));cases r with
   |nil=>rw[J_one,hc];simp
   |cons v r=>rw[J_cons,hc];simp at hih ⊢;omega
 have hlen:=hwl ws hw;have hrun: ∀ K:Int→Option R,legationref05_Run.g n (ofL (J ws)) 0 1 K=K 0:=fun K=>by
  have:=run_g (ofL (J ws)) (n:=n) (by omega) hn1 0 (Nat.zero_le _) 1 (.inl rfl) K;refine this.trans ?_;rw[ofL_toList,List.drop_zero];cases ws with
  |nil=>exact absurd rfl hne
  |cons w r=>
   obtain⟨c,q,hc,hsp⟩:=first_ns (hw w (List.mem_cons_self ..));have: ∃ q,J (w::r)=c::q:=by
    cases r with
    |nil=>exact⟨q,by rw[J_one,hc]⟩
    |cons v r=>exact⟨_,by rw[J_cons,hc];rfl⟩
   obtain⟨q',hq⟩:=this;rw[hq,List.takeWhile_cons,show runP 1 c=false from hsp];rfl
 unfold legationref05_Lex.g;simp only[bifd,hrun];rw[if_neg (by omega)];exact lex_l (ofL (J ws)) (by omega) (by omega) hn0 hn1 (fun l3=>K l3 0 0) K ws [] 0 n hw hlo hne (by rw[ofL_toList];rfl) (Nat.le_refl _) (by omega)
end Go.Proofs.YtcfoebkbahpnaaaGreat.Ab

/- What is said of the functions is so. -/
namespace Go.Proofs.YtcfoebkbahpnaaaGreat.Ab
open Go Go.Proofs.YtcfoebkbahpnaaaGreat
theorem v28 (n:Nat):EnvOK G.P (E n (Hs n) 28):=EnvOK.take (by kernel_rfl) (v27 n) (Hd.h30 n)
theorem v29 (n:Nat):EnvOK G.P (E n (Hs n) 29):=EnvOK.take (by kernel_rfl) (v28 n) (ok58 n (v28 n))
theorem v30 (n:Nat):EnvOK G.P (E n (Hs n) 30):=EnvOK.take (by kernel_rfl) (v29 n) (Hd.h59 n)
theorem v31 (n:Nat):EnvOK G.P (E n (Hs n) 31):=EnvOK.take (by kernel_rfl) (v30 n) (ok33 n (v30 n))
theorem v32 (n:Nat):EnvOK G.P (E n (Hs n) 32):=EnvOK.take (by kernel_rfl) (v31 n) (ok31 n (v31 n))
theorem v33 (n:Nat):EnvOK G.P (E n (Hs n) 33):=EnvOK.take (by kernel_rfl) (v32 n) (ok32 n (v32 n))
theorem v34 (n:Nat):EnvOK G.P (E n (Hs n) 34):=EnvOK.take (by kernel_rfl) (v33 n) (ok17 n (v33 n))
end Go.Proofs.YtcfoebkbahpnaaaGreat.Ab
