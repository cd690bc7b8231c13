import Derived.Test.YtcfoebkbahpnaaaGreatZLi
import Derived.Test.YtcfoebkbahpnaaaGreatZLk
/- What the reference's readers of bytes come to. -/
set_option linter.unusedVariables false
set_option linter.unusedSimpArgs false
namespace Go.Proofs.YtcfoebkbahpnaaaGreat.Ab
open Go Go.Proofs.YtcfoebkbahpnaaaGreat

def spB (b : UInt8) : Bool := b.toNat == 32 || b.toNat == 9 || b.toNat == 10
theorem space_g (c:UInt8) (K:Bool→Option R):legationref05_Space.g (c.toNat:Int) K=K (spB c):=by
 unfold legationref05_Space.g spB;simp only[bifd];by_cases h1:c.toNat=32
 ·rw[if_pos (by omega)];simp[h1]
 by_cases h2:c.toNat=9
 ·rw[if_neg (by omega),if_pos (by omega)];simp[h2]
 rw[if_neg (by omega),if_neg (by omega)];by_cases h3:c.toNat=10
 ·simp[h3]
 have e1:(c.toNat==32)=false:=beq_eq_false_iff_ne.2 h1;have e2:(c.toNat==9)=false:=beq_eq_false_iff_ne.2 h2;have e3:(c.toNat==10)=false:=beq_eq_false_iff_ne.2 h3;rw[e1,e2,e3,decide_eq_false (by omega)];rfl
theorem between_g (c:UInt8) (a b:Nat) (K:Bool→Option R):legationref01_Between.g (c.toNat:Int) (a:Int) (b:Int) K=K (decide (a≤c.toNat) && decide (c.toNat≤b)):=by
 unfold legationref01_Between.g;rw[bifd];by_cases h:a≤c.toNat
 ·rw[if_pos (by omega)];simp only[h,decide_true,Bool.true_and];congr 1;rw[decide_eq_decide];omega
 rw[if_neg (by omega)];simp[h]
theorem letterL_g (c:UInt8) (K:Bool→Option R):legationref05_Letter.g (c.toNat:Int) K=K (isLet c):=by
 unfold legationref05_Letter.g;rw[show(97:Int)=((97:Nat):Int)from rfl,show(122:Int)=((122:Nat):Int)from rfl,show(65:Int)=((65:Nat):Int)from rfl,show(90:Int)=((90:Nat):Int)from rfl,between_g];simp only[between_g];unfold isLet;cases (decide (97≤c.toNat) && decide (c.toNat≤122))<;>simp
theorem digitL_g (c:UInt8) (K:Bool→Option R):legationref05_Digit.g (c.toNat:Int) K=K (isDig c):=by
 unfold legationref05_Digit.g;rw[show(48:Int)=((48:Nat):Int)from rfl,show(57:Int)=((57:Nat):Int)from rfl,between_g];rfl
def runP (kd : Int) : UInt8 → Bool := if kd = 1 then spB else if kd = 2 then isLet else isDig
theorem run_l (s:ByteArray) (hs:s.size<4611686018427387904) (at_:Nat) (kd:Int) (hk:kd=1∨kd=2∨kd=3) (K:Int→Option R): ∀ (r:List UInt8) (i m:Nat),s.data.toList.drop (at_+i)=r→at_+i≤s.size→r.length<m→
 legationref05_Run.l2 m s (at_:Int) kd (i:Int) K K=K ((i+(r.takeWhile (runP kd)).length:Nat):Int)
 |r,i,0,hd,hi,hm=>by omega
 | [],i,m+1,hd,hi,hm=>by
  have:=drop_size hd;rw[legationref05_Run.l2];simp only[bifd,show wr ((at_:Int)+(i:Int))=((at_+i:Nat):Int)from by rw[wr_eq _ (by omega) (by omega)];omega];rw[if_neg (by omega)];simp
 |c::r,i,m+1,hd,hi,hm=>by
  obtain⟨hb,his,hr⟩:=ch_drop hd;have ih:=run_l s hs at_ kd hk K r (i+1) m (by rw[← hr];rfl) (by omega) (by simpa using hm);rw[legationref05_Run.l2];simp only[bifd2,bifd,bifn,show wr ((at_:Int)+(i:Int))=((at_+i:Nat):Int)from by rw[wr_eq _ (by omega) (by omega)];omega,hb,space_g,letterL_g,digitL_g,wr_succ (show i<9223372036854775807 by omega),ih];rw[if_pos (by omega),if_pos (by omega),List.takeWhile_cons];rcases hk with rfl|rfl|rfl
  ·simp only[show runP 1=spB from rfl,if_true,show ¬((1:Int)=2)by decide,show ¬((1:Int)=3)by decide,if_false];cases spB c<;>simp<;>congr 1<;>omega
  ·simp only[show runP 2=isLet from rfl,if_true,show ¬((2:Int)=1)by decide,show ¬((2:Int)=3)by decide,if_false];cases isLet c<;>simp<;>congr 1<;>omega
  simp only[show runP 3=isDig from rfl,if_true,show ¬((3:Int)=1)by decide,show ¬((3:Int)=2)by decide,if_false];cases isDig c<;>simp<;>congr 1<;>omega
theorem run_g (s:ByteArray) {n:Nat} (hs:s.size<n) (hn:n<4611686018427387904) (at_:Nat) (ha:at_≤s.size) (kd:Int) (hk:kd=1∨kd=2∨kd=3) (K:Int→Option R):
 legationref05_Run.g n s (at_:Int) kd K=K ((((s.data.toList.drop at_).takeWhile (runP kd)).length:Nat):Int):=by
 unfold legationref05_Run.g;have h:=run_l s (by omega) at_ kd hk K (s.data.toList.drop at_) 0 n rfl (by omega) (by rw[List.length_drop,size_toList];omega);rw[show((0:Nat):Int)=0 from rfl]at h;rw[h,Nat.zero_add]
theorem is_l (c:UInt8) (s:ByteArray) (hs:s.size<4611686018427387904) (K:Bool→Option R): ∀ (r:List UInt8) (i m:Nat),s.data.toList.drop i=r→r.length<m→
 legationref01_Is.l2 m (c.toNat:Int) s (i:Int) (K false) K=K (r.any fun x=>x.toNat==c.toNat)
 |r,i,0,hd,hm=>by omega
 | [],i,m+1,hd,hm=>by
  have:=drop_size hd;rw[legationref01_Is.l2];simp only[bifd];rw[if_neg (by omega)];rfl
 |d::r,i,m+1,hd,hm=>by
  obtain⟨hb,his,hr⟩:=ch_drop hd;have ih:=is_l c s hs K r (i+1) m hr (by simpa using hm);rw[legationref01_Is.l2];simp only[bifd2,bifd,hb,wr_succ (show i<9223372036854775807 by omega),ih];rw[if_pos (by omega),if_pos (by omega),List.any_cons];by_cases h:d.toNat=c.toNat
  ·rw[if_pos (by omega)];simp[h]
  rw[if_neg (by omega),beq_eq_false_iff_ne.2 h,Bool.false_or]
theorem is_g (c:UInt8) (s:ByteArray) {n:Nat} (hs:s.size<n) (hn:n<4611686018427387904) (K:Bool→Option R):legationref01_Is.g n (c.toNat:Int) s K=K (s.data.toList.any fun x=>x.toNat==c.toNat):=
 is_l c s (by omega) K s.data.toList 0 n rfl (by rw[size_toList];exact hs)
def allP (kd : Int) : UInt8 → Bool := if kd = 1 then iriC else if kd = 2 then textB else if kd = 3 then nameB else langB
theorem iri_any (c:UInt8):iriC c=((decide (33≤c.toNat) && decide (c.toNat≤126)) && !(([60,62,34,123,125,124,94,96,92]:List UInt8).any fun x=>x.toNat==c.toNat)):=
 forall_byte (P:=fun c=>iriC c=((decide (33≤c.toNat) && decide (c.toNat≤126)) && !(([60,62,34,123,125,124,94,96,92]:List UInt8).any fun x=>x.toNat==c.toNat))) (by decide+kernel) c
theorem all_l (s:ByteArray) {n:Nat} (hs:s.size<n) (hn0:9<n) (hn:n<4611686018427387904) (kd:Int) (hk:kd=1∨kd=2∨kd=3∨kd=4) (k0:Option R) (K:Bool→Option R): ∀ (r:List UInt8) (i m:Nat),s.data.toList.drop i=r→r.length<m→
 legationref01_All.l2 n m s kd (i:Int) k0 K=bif r.all (allP kd)then k0 else K false
 |r,i,0,hd,hm=>by omega
 | [],i,m+1,hd,hm=>by
  have:=drop_size hd;rw[legationref01_All.l2];simp only[bifd];rw[if_neg (by omega)];rfl
 |d::r,i,m+1,hd,hm=>by
  obtain⟨hb,his,hr⟩:=ch_drop hd;have ih:=all_l s hs hn0 hn kd hk k0 K r (i+1) m hr (by simpa using hm);(have hbt: ∀ (a b:Nat) (K:Bool→Option R),legationref01_Between.g (d.toNat:Int) (a:Int) (b:Int) K=K (decide (a≤d.toNat) && decide (d.toNat≤b)):=fun a b K=>between_g d a b K);have b1:=hbt 33 126;have b2:=hbt 32 126;have b3:=hbt 97 122;have b4:=hbt 65 90;have b5:=hbt 48 57;(have hi9: ∀ K:Bool→Option R,legationref01_Is.g n (d.toNat:Int) ⟨#[60,62,34,123,125,124,94,96,92]⟩ K=K (([60,62,34,123,125,124,94,96,92]:List UInt8).any fun x=>x.toNat==d.toNat):=fun K=>is_g d ⟨#[60,62,34,123,125,124,94,96,92]⟩ (show 9<n from hn0) hn K);rw[legationref01_All.l2];simp only[bifd2,bifd,bifn,hb,wr_succ (show i<9223372036854775807 by omega),ih];rw[if_pos (by omega),if_pos (by omega),List.all_cons];simp only[show(33:Int)=((33:Nat):Int)from rfl,show(126:Int)=((126:Nat):Int)from rfl,show(32:Int)=((32:Nat):Int)from rfl,show(97:Int)=((97:Nat):Int)from rfl,show(122:Int)=((122:Nat):Int)from rfl,show(65:Int)=((65:Nat):Int)from rfl,show(90:Int)=((90:Nat):Int)from rfl,show(48:Int)=((48:Nat):Int)from rfl,show(57:Int)=((57:Nat):Int)from rfl,hbt,hi9];rcases hk with rfl|rfl|rfl|rfl
  ·simp only[show allP 1=iriC from rfl,if_true,iri_any d];cases (decide (33≤d.toNat) && decide (d.toNat≤126))with
   |false=>rfl
   |true=>cases ([60,62,34,123,125,124,94,96,92]:List UInt8).any fun x=>x.toNat==d.toNat<;>rfl
  ·simp only[show allP 2=textB from rfl,if_true,show ¬((2:Int)=1)by decide,if_false];unfold textB;cases (decide (32≤d.toNat) && decide (d.toNat≤126))with
   |true=>rfl
   |false=>
    by_cases h1:d.toNat=10
    ·rw[cond_false,if_pos (by omega)];simp[h1]
    by_cases h2:d.toNat=9
    ·rw[cond_false,if_neg (by omega),if_pos (by omega)];simp[h2]
    rw[cond_false,if_neg (by omega),if_neg (by omega),beq_eq_false_iff_ne.2 h1,beq_eq_false_iff_ne.2 h2];rfl
  ·simp only[show allP 3=nameB from rfl,if_true,show ¬((3:Int)=1)by decide,show ¬((3:Int)=2)by decide,if_false];unfold nameB isLet isDig;cases (decide (97≤d.toNat) && decide (d.toNat≤122))<;>cases (decide (65≤d.toNat) && decide (d.toNat≤90))<;>cases (decide (48≤d.toNat) && decide (d.toNat≤57))<;>first|rfl|skip
   by_cases h1:d.toNat=95
   ·simp only[cond_false];rw[if_pos (by omega)];simp[h1]
   simp only[cond_false];rw[if_neg (by omega),beq_eq_false_iff_ne.2 h1];rfl
  simp only[show allP 4=langB from rfl,if_true,show ¬((4:Int)=1)by decide,show ¬((4:Int)=2)by decide,show ¬((4:Int)=3)by decide,if_false];unfold langB;cases (decide (97≤d.toNat) && decide (d.toNat≤122))<;>rfl
theorem all_g (s:ByteArray) {n:Nat} (hs:s.size<n) (hn0:9<n) (hn:n<4611686018427387904) (kd:Int) (hk:kd=1∨kd=2∨kd=3∨kd=4) (K:Bool→Option R):legationref01_All.g n s kd K=K (s.data.toList.all (allP kd)):=by
 unfold legationref01_All.g;have h:=all_l s hs hn0 hn kd hk (K true) K s.data.toList 0 n rfl (by rw[size_toList];exact hs);rw[show((0:Nat):Int)=0 from rfl]at h;rw[h];cases s.data.toList.all (allP kd)<;>rfl
theorem rIri_g (s:ByteArray) {n:Nat} (hs:s.size<n) (hn0:9<n) (hn:n<4611686018427387904) (K:Bool→Option R):legationref01_IsIri.g n s K=K (okIri s.data.toList):=by
 unfold legationref01_IsIri.g;rw[all_g s hs hn0 hn 1 (.inl rfl)];simp only[bifd];unfold okIri;have hz:=size_toList s;cases hl:s.data.toList with
 |nil=>rw[hl]at hz;rw[if_neg (by simp at hz;omega)];rfl
 |cons c r=>
  rw[hl]at hz;rw[if_pos (by simp at hz;omega)];by_cases h:s.size≤4096
  ·rw[if_pos (by omega),decide_eq_true (by omega)];simp[allP]
  rw[if_neg (by omega),decide_eq_false (by omega)];simp
theorem rLang_g (s:ByteArray) {n:Nat} (hs:s.size<n) (hn0:9<n) (hn:n<4611686018427387904) (K:Bool→Option R):legationref01_IsLang.g n s K=K (okLang s.data.toList):=by
 unfold legationref01_IsLang.g;rw[all_g s hs hn0 hn 4 (.inr (.inr (.inr rfl)))];simp only[bifd];unfold okLang;have hz:=size_toList s;cases hl:s.data.toList with
 |nil=>rw[hl]at hz;rw[if_neg (by simp at hz;omega)];rfl
 |cons c r=>
  rw[hl]at hz;rw[if_pos (by simp at hz;omega)];by_cases h:s.size≤8
  ·rw[if_pos (by omega),decide_eq_true (by omega)];simp[allP]
  rw[if_neg (by omega),decide_eq_false (by omega)];simp
theorem rName_g (s:ByteArray) {n:Nat} (hs:s.size<n) (hn0:9<n) (hn:n<4611686018427387904) (K:Bool→Option R):legationref01_IsName.g n s K=K (okName s.data.toList):=by
 unfold legationref01_IsName.g;rw[all_g s hs hn0 hn 3 (.inr (.inr (.inl rfl)))];simp only[bifd];rw[okName_all];have hz:=size_toList s;cases hl:s.data.toList with
 |nil=>rw[hl]at hz;rw[if_neg (by simp at hz;omega)];rfl
 |cons c r=>
  obtain⟨hb,his,hr⟩:=ch_drop (s:=s) (i:=0) (by rw[List.drop_zero];exact hl);rw[hl]at hz;rw[if_pos (by simp at hz;omega),decide_eq_true (show 1≤(c::r).length by simp)];have e1:=between_g c 97 122;have e2:=between_g c 65 90;by_cases h:s.size≤32
  ·rw[if_pos (by omega),decide_eq_true (show(c::r).length≤32 by omega),show ch s (0:Int)=(c.toNat:Int)from hb];simp only[show(97:Int)=((97:Nat):Int)from rfl,show(122:Int)=((122:Nat):Int)from rfl,show(65:Int)=((65:Nat):Int)from rfl,show(90:Int)=((90:Nat):Int)from rfl,e1,e2,if_pos (show(0:Int)<(s.size:Int)by omega),show allP 3=nameB from rfl];unfold isLet;cases (c::r).all nameB<;>cases (decide (97≤c.toNat) && decide (c.toNat≤122))<;>simp
  rw[if_neg (by omega),decide_eq_false (show ¬(c::r).length≤32 by omega)];simp
theorem place_l (s:ByteArray) (hs:s.size<4611686018427387904) (c:UInt8) (q:List UInt8) (k0:Option R) (K:Int→Option R): ∀ (p:List UInt8) (i m:Nat),s.data.toList.drop i=p++c::q→c ∉ p→p.length+1<m→
 legationref01_place.l2 m s (c.toNat:Int) (i:Int) k0 K=K ((i+p.length:Nat):Int)
 |p,i,0,hd,hc,hm=>by omega
 | [],i,m+1,hd,hc,hm=>by
  obtain⟨hb,his,hr⟩:=ch_drop hd;rw[legationref01_place.l2];simp only[bifd2,bifd,hb];rw[if_pos (by omega),if_pos (by omega)];simp
 |d::p,i,m+1,hd,hc,hm=>by
  obtain⟨hb,his,hr⟩:=ch_drop hd;have ih:=place_l s hs c q k0 K p (i+1) m hr (fun h=>hc (List.mem_cons_of_mem _ h)) (by simpa using hm);(have hne:¬((d.toNat:Int)=(c.toNat:Int)):=fun e=>hc (by rw[UInt8.toNat_inj.1 (show d.toNat=c.toNat by omega)];exact List.mem_cons_self ..));rw[legationref01_place.l2];simp only[bifd2,bifd,hb,wr_succ (show i<9223372036854775807 by omega),ih];rw[if_pos (by omega),if_pos (by omega),if_neg hne];congr 2;simp;omega
end Go.Proofs.YtcfoebkbahpnaaaGreat.Ab

/- What the reference reads of a term's text. -/
set_option linter.unusedVariables false
set_option linter.unusedSimpArgs false
namespace Go.Proofs.YtcfoebkbahpnaaaGreat.Ab
open Go Go.Proofs.YtcfoebkbahpnaaaGreat

theorem ext_ofL (l:List UInt8) (i j:Nat):(ofL l).extract i j=ofL ((l.drop i).take (j - i)):=by
 have h:=ext_list (ofL l) i j;rw[ofL_toList]at h;rw[← h,ofL_data]
theorem closing_l (s:ByteArray) (hs:s.size<4611686018427387904) (q:List UInt8) (k0:Option R) (K:Int→Option R): ∀ (x:List UInt8) (i m:Nat),s.data.toList.drop i=esc x++34::q→x.length+1<m→
 legationref01_closing.l2 m s (i:Int) k0 K=K ((i+(esc x).length:Nat):Int)
 |x,i,0,hd,hm=>by omega
 | [],i,m+1,hd,hm=>by
  obtain⟨hb,his,hr⟩:=ch_drop (show s.data.toList.drop i=34::q from hd);rw[legationref01_closing.l2];simp only[bifd2,bifd,hb];rw[if_pos (by omega),if_pos (by omega),if_neg (by decide),if_pos (by omega),if_pos (by decide)];rfl
 |c::x,i,m+1,hd,hm=>by
  rw[esc_cons,List.append_assoc]at hd;have hlen:(esc (c::x)).length=(escB c).length+(esc x).length:=(by rw[esc_cons,List.length_append]);have two: ∀ d:UInt8,escB c= [92,d]→legationref01_closing.l2 (m+1) s (i:Int) k0 K=K ((i+(esc (c::x)).length:Nat):Int):=fun d e=>by
   rw[e]at hd;obtain⟨hb,his,hr⟩:=ch_drop (show s.data.toList.drop i=92::(d::(esc x++34::q))from hd);obtain⟨hb2,his2,hr2⟩:=ch_drop hr;have ih:=closing_l s hs q k0 K x (i+1+1) m hr2 (by simpa using hm);rw[legationref01_closing.l2];simp only[bifd2,bifd,hb,wr_succ (show i<9223372036854775807 by omega),wr_succ (show i+1<9223372036854775807 by omega),ih];rw[if_pos (by omega),if_pos (by omega),if_pos (by decide),hlen,e];congr 2;simp;omega
  by_cases h1:c.toNat=34
  ·exact two 34 (by unfold escB;rw[if_pos h1])
  by_cases h2:c.toNat=92
  ·exact two 92 (by unfold escB;rw[if_neg h1,if_pos h2])
  by_cases h3:c.toNat=10
  ·exact two 110 (by unfold escB;rw[if_neg h1,if_neg h2,if_pos h3])
  by_cases h4:c.toNat=9
  ·exact two 116 (by unfold escB;rw[if_neg h1,if_neg h2,if_neg h3,if_pos h4])
  have e:escB c= [c]:=(by unfold escB;rw[if_neg h1,if_neg h2,if_neg h3,if_neg h4]);rw[e]at hd;obtain⟨hb,his,hr⟩:=ch_drop (show s.data.toList.drop i=c::(esc x++34::q)from hd);have ih:=closing_l s hs q k0 K x (i+1) m hr (by simpa using hm);rw[legationref01_closing.l2];simp only[bifd2,bifd,hb,wr_succ (show i<9223372036854775807 by omega),ih];rw[if_pos (by omega),if_pos (by omega),if_neg (by omega),if_pos (by omega),if_neg (by omega),hlen,e];congr 2;simp;omega
theorem unesc_l (s:ByteArray) (hs:s.size<4611686018427387904) (k0:ByteArray→Option R) (kr:ByteArray→Bool→Option R): ∀ (x:List UInt8) (a:List UInt8) (i m:Nat),s.data.toList.drop i=esc x→x.length<m→a.length+x.length<4611686018427387904→
 legationref01_unescaped.l3 m s (ofL a) (i:Int) k0 kr=k0 (ofL (a++x))
 |x,a,i,0,hd,hm,hl=>by omega
 | [],a,i,m+1,hd,hm,hl=>by
  have:=drop_size (show s.data.toList.drop i= []from hd);rw[legationref01_unescaped.l3];simp only[bifd];rw[if_neg (by omega),List.append_nil]
 |c::x,a,i,m+1,hd,hm,hl=>by
  rw[esc_cons]at hd;have hl':(c::x).length=x.length+1:=rfl;have hi0:i<s.size:=by
   rcases Nat.lt_or_ge i s.size with h|h
   ·exact h
   rw[List.drop_eq_nil_of_le (by rw[size_toList];exact h)]at hd;have:=congrArg List.length hd;have h2:0<(escB c).length:=(by unfold escB;(repeat' split)<;>simp);simp at this;omega
  have w1:=wr_succ (show i<9223372036854775807 by omega);have two: ∀ d:UInt8,escB c= [92,d]→(d=34∧c=34∨d=92∧c=92∨d=110∧c=10∨d=116∧c=9)→legationref01_unescaped.l3 (m+1) s (ofL a) (i:Int) k0 kr=k0 (ofL (a++c::x)):=fun d e hdc=>by
   rw[e]at hd;obtain⟨hb,his,hr⟩:=ch_drop (show s.data.toList.drop i=92::(d::esc x)from hd);obtain⟨hb2,his2,hr2⟩:=ch_drop hr;have ih:=unesc_l s hs k0 kr x (a++ [c]) (i+1+1) m hr2 (by simpa using hm) (by simp;omega);rw[List.append_assoc]at ih;have w2:=wr_succ (show i+1<9223372036854775807 by omega);have he:s.extract (((i+1:Nat):Int)).toNat (((i+1+1:Nat):Int)).toNat=ofL [d]:=by
    rw[Int.toNat_natCast,Int.toNat_natCast,← ofL_data s,ext_ofL,hr];congr 1;simp
   rw[legationref01_unescaped.l3];simp only[bifd2,bifd3,bifd,bifn,hb,w1,hb2,w2,he,lit];rw[if_pos (by omega),if_pos (by omega),if_pos (by decide),if_neg (by omega),if_pos (by omega)];(have hcat: ∀ K:ByteArray→Option R,catC (ofL a) (ofL [c]) K=K (ofL (a++ [c])):=fun K=>catL (by simp;omega));rcases hdc with ⟨rfl,rfl⟩|⟨rfl,rfl⟩|⟨rfl,rfl⟩|⟨rfl,rfl⟩
   ·rw[if_pos (by decide),if_pos (by decide),if_pos (by omega),hcat];exact ih
   ·rw[if_neg (by decide),if_pos (by decide),if_pos (by omega),hcat];exact ih
   ·rw[if_neg (by decide),if_neg (by decide),if_pos (by decide),hcat];exact ih
   rw[if_neg (by decide),if_neg (by decide),if_neg (by decide),if_pos (by decide),hcat];exact ih
  by_cases h1:c.toNat=34
  ·exact two 34 (by unfold escB;rw[if_pos h1]) (.inl ⟨rfl,UInt8.toNat_inj.1 h1⟩)
  by_cases h2:c.toNat=92
  ·exact two 92 (by unfold escB;rw[if_neg h1,if_pos h2]) (.inr (.inl ⟨rfl,UInt8.toNat_inj.1 h2⟩))
  by_cases h3:c.toNat=10
  ·exact two 110 (by unfold escB;rw[if_neg h1,if_neg h2,if_pos h3]) (.inr (.inr (.inl ⟨rfl,UInt8.toNat_inj.1 h3⟩)))
  by_cases h4:c.toNat=9
  ·exact two 116 (by unfold escB;rw[if_neg h1,if_neg h2,if_neg h3,if_pos h4]) (.inr (.inr (.inr ⟨rfl,UInt8.toNat_inj.1 h4⟩)))
  have e:escB c= [c]:=(by unfold escB;rw[if_neg h1,if_neg h2,if_neg h3,if_neg h4]);rw[e]at hd;obtain⟨hb,his,hr⟩:=ch_drop (show s.data.toList.drop i=c::esc x from hd);have ih:=unesc_l s hs k0 kr x (a++ [c]) (i+1) m hr (by simpa using hm) (by simp;omega);rw[List.append_assoc]at ih;have he:s.extract ((i:Int)).toNat (((i+1:Nat):Int)).toNat=ofL [c]:=by
   rw[Int.toNat_natCast,Int.toNat_natCast,← ofL_data s,ext_ofL,show s.data.toList.drop i=c::esc x from hd];congr 1;simp
  rw[legationref01_unescaped.l3];simp only[bifd2,bifd3,bifd,bifn,hb,w1,he,lit];(have hcat: ∀ K:ByteArray→Option R,catC (ofL a) (ofL [c]) K=K (ofL (a++ [c])):=fun K=>catL (by simp;omega));rw[if_pos (by omega),if_pos (by omega),if_neg (by omega),if_pos (by omega),if_neg (by omega),if_pos (by omega),if_neg (by omega),if_pos (by omega),if_neg (by omega),if_pos (by omega),hcat];exact ih
/-- what may stand behind a word -/
def Behind (r : List UInt8) : Prop := r = [] ∨ ∃ q, r = 32 :: q
theorem okName_take {l:List UInt8} (h:okName l=true) {i:Nat} (hi:i<l.length):okName (l.take (i+1))=true:=by
 cases l with
 |nil=>cases h
 |cons c r=>
  simp only[okName,Bool.and_eq_true,decide_eq_true_eq]at h;simp only[List.take_succ_cons,okName,Bool.and_eq_true,decide_eq_true_eq];refine⟨⟨h.1.1,?_⟩,by rw[List.length_take];omega⟩;rw[List.all_eq_true]at h ⊢;exact fun x hx=>h.1.2 x (List.mem_of_mem_take hx)
theorem okName_more {l:List UInt8} {c:UInt8} {r:List UInt8} (hc:nameB c=false):okName (l++c::r)=true→l= []:=by
 intro h;cases l with
 |nil=>rfl
 |cons a l=>
  simp only[List.cons_append,okName,Bool.and_eq_true,List.all_append,List.all_cons,hc]at h;simp at h
theorem nameLen_l (nm rest:List UInt8) (hn:okName nm=true) (hr:Behind rest) {n:Nat} (hs:(nm++rest).length<n) (hn0:40<n) (hn1:n<4611686018427387904) (K:Int→Option R): ∀ (j i m:Nat),i+j=nm.length→j<m→
 legationref01_nameLen.l2 n m (ofL (nm++rest)) (i:Int) K=K ((nm.length:Nat):Int)
 |j,i,0,hj,hm=>by omega
 |0,i,m+1,hj,hm=>by
  (obtain rfl:i=nm.length:=by omega);have hz:(ofL (nm++rest)).size=nm.length+rest.length:=(by rw[ofL_size,List.length_append]);have h32:=(okName_len hn).1;have hne:=(okName_len hn).2;rw[legationref01_nameLen.l2];simp only[bifd2,bifd,wr_succ (show nm.length<9223372036854775807 by omega)];rcases hr with rfl|⟨q,rfl⟩
  ·rw[List.length_nil]at hz;rw[if_neg (by omega)]
  rw[List.length_cons]at hz;rw[if_pos (by omega)];by_cases h:nm.length=32
  ·rw[if_neg (by omega)]
  have e:(nm++32::q).take (nm.length+1)=nm++ [32]:=(by rw[List.take_append,List.take_of_length_le (Nat.le_succ _)];simp);rw[if_pos (by omega),if_pos (by omega),Int.toNat_natCast,ext_ofL,List.drop_zero,Nat.sub_zero,e,rName_g _ (by rw[ofL_size];simp;omega) (by omega) hn1,ofL_toList];have:okName (nm++ [32])=false:=by
   cases h:okName (nm++ [32])with
   |false=>rfl
   |true=>exact absurd (okName_more (by decide) h) hne
  rw[this];rfl
 |j+1,i,m+1,hj,hm=>by
  have hz:(ofL (nm++rest)).size=nm.length+rest.length:=(by rw[ofL_size,List.length_append]);have h32:=(okName_len hn).1;have ih:=nameLen_l nm rest hn hr hs hn0 hn1 K j (i+1) m (by omega) (by omega);rw[legationref01_nameLen.l2];simp only[bifd2,bifd,wr_succ (show i<9223372036854775807 by omega),ih];have e:(nm++rest).take (i+1)=nm.take (i+1):=(by rw[List.take_append_of_le_length (by omega)]);rw[if_pos (by omega),if_pos (by omega),if_pos (by omega),Int.toNat_natCast,ext_ofL,List.drop_zero,Nat.sub_zero,e,rName_g _ (by rw[ofL_size,List.length_take];omega) (by omega) hn1,ofL_toList,okName_take hn (by omega)];rfl
theorem nameLen_g (nm rest:List UInt8) (hn:okName nm=true) (hr:Behind rest) {n:Nat} (hs:(nm++rest).length<n) (hn0:40<n) (hn1:n<4611686018427387904) (K:Int→Option R):legationref01_nameLen.g n (ofL (nm++rest)) K=K (nm.length:Int):=by
 have h32:=(okName_len hn).1;exact nameLen_l nm rest hn hr hs hn0 hn1 K nm.length 0 n (by omega) (by omega)
theorem lang_l (s:ByteArray) (hs:s.size<4611686018427387904) (i4:Int) (s6 s7 s8:ByteArray) (i5:Int) (s9 s10 s11:ByteArray) (k0:ByteArray→Int→Int→ByteArray→ByteArray→ByteArray→Int→ByteArray→ByteArray→ByteArray→Option R): ∀ (r:List UInt8) (i m:Nat),s.data.toList.drop i=r→r.length<m→
 legationref01_typed.l8 m s (i:Int) i4 s6 s7 s8 i5 s9 s10 s11 k0=k0 s ((i+(r.takeWhile langB).length:Nat):Int) i4 s6 s7 s8 i5 s9 s10 s11
 |r,i,0,hd,hm=>by omega
 | [],i,m+1,hd,hm=>by
  have:=drop_size hd;rw[legationref01_typed.l8];simp only[bifd];rw[if_neg (by omega)];simp
 |c::r,i,m+1,hd,hm=>by
  obtain⟨hb,his,hr⟩:=ch_drop hd;have ih:=lang_l s hs i4 s6 s7 s8 i5 s9 s10 s11 k0 r (i+1) m hr (by simpa using hm);rw[legationref01_typed.l8];simp only[bifd2,bifd,hb,wr_succ (show i<9223372036854775807 by omega),ih];rw[if_pos (by omega),if_pos (by omega),show(97:Int)=((97:Nat):Int)from rfl,show(122:Int)=((122:Nat):Int)from rfl,between_g,List.takeWhile_cons];rw[show(decide (97≤c.toNat) && decide (c.toNat≤122))=langB c from rfl];cases langB c with
  |true=>simp only[cond_true,if_true];congr 2;simp;omega
  |false=>simp
end Go.Proofs.YtcfoebkbahpnaaaGreat.Ab
