import Derived.Test.YtcfoebkbahpnaaaDPc
import Derived.Test.YtcfoebkbahpnaaaDTe
/- The reference's place where parts begin. -/
namespace Go.Proofs.Ytcfoebkbahpnaaa.L
open Go.RowKit Go.Lib Go.Proofs.Ytcfoebkbahpnaaa Go.Proofs.YtcfoebkbahpnaaaW.PrintWords Go.Proofs.YtcfoebkbahpnaaaW.PrintLast
set_option linter.unusedVariables false
set_option linter.unusedSimpArgs false

/-! ### the reference's place where parts begin -/
theorem dep_bd (c:List S45): ∀ j, -((2*j:Nat):Int)≤dep c j∧dep c j≤((2*j:Nat):Int)
 |0=>by rw[dep_zero];omega
 |j+1=>by
  have ih:=dep_bd c j;rcases Nat.lt_or_ge j c.length with h|h
  ·have hd:=List.drop_eq_getElem_cons h;have:=dep_succ hd;have:=opNeeds_le c[j].f0;omega
  have:dep c (j+1)=dep c j:=(by unfold dep;rw[List.take_of_length_le (by omega),List.take_of_length_le h]);omega
theorem rFrom_loop (c:List S45) (hc:c.length≤128) (f t:Nat) (ht:t<c.length) (hj: ∀ j,f<j→j≤t→dep c f+1≤dep c j): ∀ (d j:Nat),j=f+d→j≤t→
 Ev (fun k=>legationref07_From.l0 k c (dep c (j+1) - dep c f) (j:Int)) (f:Int):=by
 intro d;induction d with
 |zero=>
  intro j hjd hjt;have hjf:j=f:=(by omega);subst hjf;have hd:=List.drop_eq_getElem_cons (show j<c.length by omega);obtain⟨hg,_,_,_⟩:=get_of_drop hd z45;have e:rd_T45 c (j:Int)=c[j]:=hg;have hds:=dep_succ hd;have hle:=opNeeds_le c[j].f0;refine Ev.step (fun k=>by rw[legationref07_From.l0]) ?_;simp only[if_pos (show(j:Int)≥0 by omega),if_pos (show(0:Int)≤(j:Int)by omega),if_pos (show(j:Int)<(c.length:Int)by omega),e];refine Ev.bind (rneeds_ev _ _ _ _ _ _ _) ?_;simp only[show wrap64 (wrap64 (dep c (j+1) - dep c j+opNeeds c[j].f0) - 1)=0 by unfold wrap64;omega,if_true];exact Ev.now _
 |succ d ih=>
  intro j hjd hjt;have hd:=List.drop_eq_getElem_cons (show j<c.length by omega);obtain⟨hg,_,_,_⟩:=get_of_drop hd z45;have e:rd_T45 c (j:Int)=c[j]:=hg;have hds:=dep_succ hd;have hle:=opNeeds_le c[j].f0;have b1:=dep_bd c j;have b2:=dep_bd c f;have b3:=dep_bd c (j+1);have h1:=hj j (by omega) hjt;refine Ev.step (fun k=>by rw[legationref07_From.l0]) ?_;simp only[if_pos (show(j:Int)≥0 by omega),if_pos (show(0:Int)≤(j:Int)by omega),if_pos (show(j:Int)<(c.length:Int)by omega),e];refine Ev.bind (rneeds_ev _ _ _ _ _ _ _) ?_;have hw:wrap64 (wrap64 (dep c (j+1) - dep c f+opNeeds c[j].f0) - 1)=dep c j - dep c f:=(by unfold wrap64;omega);simp only[hw,if_neg (show ¬ dep c j - dep c f=0 by omega)];obtain⟨i,rfl⟩: ∃ i,j=i+1:=⟨j - 1,by omega⟩;rw[show wrap64 (((i+1:Nat):Int) - 1)=(i:Int)by unfold wrap64;omega];exact ih i (by omega) (by omega)
theorem rFrom_ev {c:List S45} (hc:c.length≤128) {t:Nat} (ht:t<c.length) {F:Int} (h:FromAt c t F):Ev (fun k=>legationref07_From.f k c (t:Int)) F:=by
 obtain⟨f,rfl,hft,hd,hj,_⟩:=h;unfold legationref07_From.f;have:=rFrom_loop c hc f t ht hj (t - f) t (by omega) (Nat.le_refl _);rw[show dep c (t+1) - dep c f=1 by omega]at this;exact this
theorem okTm_iri (s:ByteArray):okTm (TT 1 s ⟨#[]⟩ ⟨#[]⟩)=okIri s.data.toList:=by
 unfold okTm TT;simp
end Go.Proofs.Ytcfoebkbahpnaaa.L

/- What the reference's functions of terms come to: the plain words of St.lean. -/
namespace Go.Proofs.Ytcfoebkbahpnaaa.L
open Go.RowKit Go.Lib Go.Proofs.Ytcfoebkbahpnaaa Go.Proofs.YtcfoebkbahpnaaaW.PrintWords Go.Proofs.YtcfoebkbahpnaaaW.PrintLast
set_option linter.unusedVariables false
set_option linter.unusedSimpArgs false

theorem btw_eq (a f t:Int):legationref01_Between.f a f t=some (decide (f≤a) && decide (a≤t)):=by
 unfold legationref01_Between.f;by_cases h:a≥f
 ·rw[if_pos h,decide_eq_true (show f≤a from h)];simp
 rw[if_neg h,decide_eq_false (show ¬ f≤a from h)];simp
theorem is_ev (c:UInt8):Ev (fun k=>legationref01_Is.f k (c.toNat:Int) (⟨#[60,62,34,123,125,124,94,96,92]⟩:ByteArray)) ([60,62,34,123,125,124,94,96,92].contains c.toNat):=by
 refine Ev.of (k:=12) (fun k=>legationref01_Is.mono _ _ k) ?_;exact forall_byte (P:=fun c=>legationref01_Is.f 12 (c.toNat:Int) (⟨#[60,62,34,123,125,124,94,96,92]⟩:ByteArray)=some ([60,62,34,123,125,124,94,96,92].contains c.toNat)) (by decide+kernel) c
theorem all_loop (s:ByteArray) (hs:s.size≤9223372036854775807) (n:Int): ∀ (r:List UInt8) (i:Nat),s.data.toList.drop i=r→i≤s.size→
 Ev (fun k=>legationref01_All.l0 k s n (i:Int)) (r.all (kindB n)):=by
 intro r;induction r with
 |nil=>
  intro i hd hi;have:=size_of_drop hd;refine Ev.step (fun k=>by rw[legationref01_All.l0]) ?_;simp only[if_neg (show ¬((i:Int)<(s.size:Int))by omega)];exact Ev.now _
 |cons c r ih=>
  intro i hd hi;obtain⟨hb,his,hr⟩:=bt_of_drop hd;refine Ev.step (fun k=>by rw[legationref01_All.l0]) ?_;simp only[if_pos (show(i:Int)<(s.size:Int)by omega),if_pos (show(0:Int)≤(i:Int)by omega),hb,wrap_succ (show i<9223372036854775807 by omega),btw_eq,Option.bind_some];have h:=ih (i+1) hr (by omega);rw[List.all_cons];by_cases n1:n=1
  ·subst n1;simp only[if_true];have e:kindB 1 c=(decide (33≤c.toNat) && decide (c.toNat≤126) && !([60,62,34,123,125,124,94,96,92].contains c.toNat)):=rfl;rw[e];have e2:(decide ((33:Int)≤(c.toNat:Int)) && decide ((c.toNat:Int)≤126))=(decide (33≤c.toNat) && decide (c.toNat≤126)):=by
    rw[Bool.eq_iff_iff];simp only[Bool.and_eq_true,decide_eq_true_eq];omega
   rw[e2];cases (decide (33≤c.toNat) && decide (c.toNat≤126))with
   |false=>simp only[Bool.false_eq_true,if_false,Bool.false_and];exact Ev.now _
   |true=>
    simp only[if_true,Bool.true_and];refine Ev.bind (is_ev c) ?_;cases ([60,62,34,123,125,124,94,96,92].contains c.toNat)with
    |true=>simp only[if_true,Bool.not_true,Bool.false_and];exact Ev.now _
    |false=>simp only[Bool.false_eq_true,if_false,Bool.not_false,Bool.true_and];exact h
  simp only[if_neg n1];by_cases n2:n=2
  ·subst n2;simp only[if_true];by_cases h1:32≤c.toNat∧c.toNat≤126
   ·have e:kindB 2 c=true:=(by simp[kindB,textB,h1.1,h1.2]);rw[e,decide_eq_true (show(32:Int)≤(c.toNat:Int)by omega),decide_eq_true (show(c.toNat:Int)≤126 by omega)];simp only[Bool.and_true,if_true,Bool.true_and];exact h
   have e1:(decide ((32:Int)≤(c.toNat:Int)) && decide ((c.toNat:Int)≤126))=false:=by
    rw[Bool.eq_false_iff];simp only[ne_eq,Bool.and_eq_true,decide_eq_true_eq];omega
   simp only[e1,Bool.false_eq_true,if_false];by_cases h2:c.toNat=10
   ·have e:kindB 2 c=true:=(by simp[kindB,textB,h2]);simp only[e,if_pos (show(c.toNat:Int)=10 by omega),Bool.true_and];exact h
   simp only[if_neg (show ¬((c.toNat:Int)=10)by omega)];by_cases h3:c.toNat=9
   ·have e:kindB 2 c=true:=(by simp[kindB,textB,h3]);simp only[e,if_pos (show(c.toNat:Int)=9 by omega),Bool.true_and];exact h
   have e:kindB 2 c=false:=(by simp[kindB,textB,h2,h3];omega);simp only[e,if_neg (show ¬((c.toNat:Int)=9)by omega),Bool.false_and];exact Ev.now _
  simp only[if_neg n2];by_cases n3:n=3
  ·subst n3;simp only[if_true];have e:kindB 3 c=nameB c:=rfl;rw[e];have q1:(decide ((97:Int)≤(c.toNat:Int)) && decide ((c.toNat:Int)≤122))=(decide (97≤c.toNat) && decide (c.toNat≤122)):=by
    rw[Bool.eq_iff_iff];simp only[Bool.and_eq_true,decide_eq_true_eq];omega
   have q2:(decide ((65:Int)≤(c.toNat:Int)) && decide ((c.toNat:Int)≤90))=(decide (65≤c.toNat) && decide (c.toNat≤90)):=by
    rw[Bool.eq_iff_iff];simp only[Bool.and_eq_true,decide_eq_true_eq];omega
   have q3:(decide ((48:Int)≤(c.toNat:Int)) && decide ((c.toNat:Int)≤57))=isDig c:=by
    unfold isDig;rw[Bool.eq_iff_iff];simp only[Bool.and_eq_true,decide_eq_true_eq];omega
   rw[q1,q2,q3];unfold nameB isLet;cases (decide (97≤c.toNat) && decide (c.toNat≤122))with
   |true=>simp only[if_true,Bool.true_or,Bool.true_and];exact h
   |false=>
    simp only[Bool.false_eq_true,if_false,Bool.false_or];cases (decide (65≤c.toNat) && decide (c.toNat≤90))with
    |true=>simp only[if_true,Bool.true_or,Bool.true_and];exact h
    |false=>
     simp only[Bool.false_eq_true,if_false,Bool.false_or];cases isDig c with
     |true=>simp only[if_true,Bool.true_or,Bool.true_and];exact h
     |false=>
      simp only[Bool.false_eq_true,if_false,Bool.false_or];by_cases h95:c.toNat=95
      ·simp only[h95,if_pos (show((95:Nat):Int)=95 from rfl),beq_self_eq_true,Bool.true_and];exact h
      simp only[if_neg (show ¬((c.toNat:Int)=95)by omega),beq_eq_false_iff_ne.mpr h95,Bool.false_and];exact Ev.now _
  simp only[if_neg n3];by_cases n4:n=4
  ·subst n4;simp only[if_true];have e:kindB 4 c=(decide (97≤c.toNat) && decide (c.toNat≤122)):=rfl;have q1:(decide ((97:Int)≤(c.toNat:Int)) && decide ((c.toNat:Int)≤122))=(decide (97≤c.toNat) && decide (c.toNat≤122)):=by
    rw[Bool.eq_iff_iff];simp only[Bool.and_eq_true,decide_eq_true_eq];omega
   rw[e,q1];cases (decide (97≤c.toNat) && decide (c.toNat≤122))with
   |true=>simp only[if_true,Bool.true_and];exact h
   |false=>simp only[Bool.false_eq_true,if_false,Bool.false_and];exact Ev.now _
  simp only[if_neg n4,show kindB n c=false by simp[kindB,n1,n2,n3,n4],Bool.false_and];exact Ev.now _
theorem all_ev (s:ByteArray) (hs:s.size≤9223372036854775807) (n:Int):Ev (fun k=>legationref01_All.f k s n) (s.data.toList.all (kindB n)):=by
 unfold legationref01_All.f;exact all_loop s hs n _ 0 rfl (by omega)
theorem rIri_ev (s:ByteArray):Ev (fun k=>legationref01_IsIri.f k s) (okIri s.data.toList):=by
 unfold legationref01_IsIri.f okIri;rw[size_toList];by_cases h1:1≤s.size
 ·have e0:s.data.toList.isEmpty=false:=by
   rw[← size_toList]at h1;cases h:s.data.toList with
   |nil=>rw[h]at h1;simp at h1
   |cons a l=>rfl
  simp only[if_pos (show(s.size:Int)≥1 by omega),e0,Bool.not_false,Bool.true_and];by_cases h2:s.size≤4096
  ·simp only[if_pos (show(s.size:Int)≤4096 by omega),decide_eq_true h2,Bool.true_and];exact Ev.bind (all_ev s (by omega) 1) (Ev.now _)
  simp only[if_neg (show ¬((s.size:Int)≤4096)by omega),decide_eq_false h2,Bool.false_and];exact Ev.now _
 have e0:s.data.toList.isEmpty=true:=by
  rw[← size_toList]at h1;cases h:s.data.toList with
  |nil=>rfl
  |cons a l=>rw[h]at h1;simp at h1
 simp only[if_neg (show ¬((s.size:Int)≥1)by omega),e0,Bool.not_true,Bool.false_and];exact Ev.now _
theorem rLang_ev (s:ByteArray):Ev (fun k=>legationref01_IsLang.f k s) (okLang s.data.toList):=by
 unfold legationref01_IsLang.f okLang;rw[size_toList];by_cases h1:1≤s.size
 ·have e0:s.data.toList.isEmpty=false:=by
   rw[← size_toList]at h1;cases h:s.data.toList with
   |nil=>rw[h]at h1;simp at h1
   |cons a l=>rfl
  simp only[if_pos (show(s.size:Int)≥1 by omega),e0,Bool.not_false,Bool.true_and];by_cases h2:s.size≤8
  ·simp only[if_pos (show(s.size:Int)≤8 by omega),decide_eq_true h2,Bool.true_and];exact Ev.bind (all_ev s (by omega) 4) (Ev.now _)
  simp only[if_neg (show ¬((s.size:Int)≤8)by omega),decide_eq_false h2,Bool.false_and];exact Ev.now _
 have e0:s.data.toList.isEmpty=true:=by
  rw[← size_toList]at h1;cases h:s.data.toList with
  |nil=>rfl
  |cons a l=>rw[h]at h1;simp at h1
 simp only[if_neg (show ¬((s.size:Int)≥1)by omega),e0,Bool.not_true,Bool.false_and];exact Ev.now _
theorem rName_ev (s:ByteArray):Ev (fun k=>legationref01_IsName.f k s) (okName s.data.toList):=by
 unfold legationref01_IsName.f;rw[okName_all,size_toList];by_cases h1:1≤s.size
 ·simp only[if_pos (show(s.size:Int)≥1 by omega),decide_eq_true h1,Bool.true_and];by_cases h2:s.size≤32
  ·simp only[if_pos (show(s.size:Int)≤32 by omega),decide_eq_true h2,Bool.true_and];refine Ev.bind (all_ev s (by omega) 3) ?_;rw[show(kindB 3)=nameB from rfl];cases s.data.toList.all nameB with
   |false=>simp only[Bool.false_eq_true,if_false,Bool.false_and];exact Ev.now _
   |true=>
    simp only[if_true,Bool.true_and,if_pos (show(0:Int)<(s.size:Int)by omega)];cases hl:s.data.toList with
    |nil=>rw[← size_toList,hl]at h1;simp at h1
    |cons c r=>
     have hb:bt s 0=(c.toNat:Int):=(bt_of_drop (s:=s) (i:=0) (by rw[List.drop_zero];exact hl)).1;simp only[hb,btw_eq,Option.bind_some];have q1:(decide ((97:Int)≤(c.toNat:Int)) && decide ((c.toNat:Int)≤122))=(decide (97≤c.toNat) && decide (c.toNat≤122)):=by
      rw[Bool.eq_iff_iff];simp only[Bool.and_eq_true,decide_eq_true_eq];omega
     have q2:(decide ((65:Int)≤(c.toNat:Int)) && decide ((c.toNat:Int)≤90))=(decide (65≤c.toNat) && decide (c.toNat≤90)):=by
      rw[Bool.eq_iff_iff];simp only[Bool.and_eq_true,decide_eq_true_eq];omega
     rw[q1,q2];unfold isLet;cases (decide (97≤c.toNat) && decide (c.toNat≤122))<;>simp only[Bool.false_eq_true,if_false,if_true,Bool.true_or,Bool.false_or]<;>exact Ev.now _
  simp only[if_neg (show ¬((s.size:Int)≤32)by omega),decide_eq_false h2,Bool.false_and];exact Ev.now _
 simp only[if_neg (show ¬((s.size:Int)≥1)by omega),decide_eq_false h1,Bool.false_and];exact Ev.now _
theorem rright_ev (k0:Int) (a b c:ByteArray):Ev (fun k=>legationref01_Right.f k k0 a b c) (okTm (TT k0 a b c)):=by
 unfold legationref01_Right.f okTm TT;simp only[tl];by_cases h2:k0=2
 ·subst h2;simp only[if_true];unfold okText;rw[size_toList];by_cases hz:a.size≤4096
  ·simp only[if_pos (show(a.size:Int)≤4096 by omega),decide_eq_true hz,Bool.true_and];refine Ev.bind (all_ev a (by omega) 2) ?_;rw[show(kindB 2)=textB from rfl];cases a.data.toList.all textB with
   |false=>simp only[Bool.false_eq_true,if_false,Bool.false_and];exact Ev.now _
   |true=>
    simp only[if_true,Bool.true_and];by_cases hb:b.data.toList= []
    ·simp only[hb,if_true,List.isEmpty_nil,Bool.true_or,Bool.true_and];by_cases hc:c.data.toList= []
     ·simp only[hc,if_true,List.isEmpty_nil,Bool.true_or];exact Ev.now _
     simp only[if_neg hc,ne_empty hc,Bool.false_or];exact Ev.bind (rLang_ev c) (Ev.now _)
    simp only[if_neg hb,ne_empty hb,Bool.false_or,Bool.false_and];refine Ev.bind (rIri_ev b) ?_;cases okIri b.data.toList with
    |false=>simp only[Bool.false_eq_true,if_false,Bool.false_and];exact Ev.now _
    |true=>
     simp only[if_true,Bool.true_and,Bool.or_false];by_cases hc:c.data.toList= []
     ·simp only[hc,if_true,List.isEmpty_nil];exact Ev.now _
     simp only[if_neg hc,ne_empty hc];exact Ev.now _
  simp only[if_neg (show ¬((a.size:Int)≤4096)by omega),decide_eq_false hz,Bool.false_and];exact Ev.now _
 simp only[if_neg h2];have hj: ∀ x:Bool,x= !(b.data.toList.isEmpty && c.data.toList.isEmpty)→Ev (fun k=>legationref01_Right.j0 k x k0 a b c) (b.data.toList.isEmpty && c.data.toList.isEmpty && (if k0=0 then a.data.toList.isEmpty else if k0=1 then okIri a.data.toList else if k0=3∨k0=4 then okName a.data.toList else false)):=by
  intro x hx;refine Ev.step (fun k=>by rw[legationref01_Right.j0]) ?_;subst hx;cases (b.data.toList.isEmpty && c.data.toList.isEmpty)with
  |false=>simp only[Bool.not_false,if_true,Bool.false_and];exact Ev.now _
  |true=>
   simp only[Bool.not_true,Bool.false_eq_true,if_false,Bool.true_and,tl];by_cases h0:k0=0
   ·simp only[if_pos h0];have e:(a.data.toList==([]:List UInt8))=a.data.toList.isEmpty:=by cases a.data.toList<;>rfl
    rw[e];exact Ev.now _
   simp only[if_neg h0];by_cases h1:k0=1
   ·simp only[if_pos h1];exact Ev.bind (rIri_ev a) (Ev.now _)
   simp only[if_neg h1];by_cases h3:k0=3
   ·simp only[if_pos h3,if_pos (Or.inl h3:k0=3∨k0=4)];exact Ev.bind (rName_ev a) (Ev.now _)
   simp only[if_neg h3];by_cases h4:k0=4
   ·simp only[if_pos h4,if_pos (Or.inr h4:k0=3∨k0=4)];exact Ev.bind (rName_ev a) (Ev.now _)
   simp only[if_neg h4,if_neg (show ¬(k0=3∨k0=4)by omega)];exact Ev.now _
 by_cases hb:b.data.toList= []
 ·simp only[if_pos hb];exact hj _ (by rw[hb];cases c.data.toList<;>simp)
 simp only[if_neg hb];exact hj _ (by rw[ne_empty hb];rfl)
end Go.Proofs.Ytcfoebkbahpnaaa.L
