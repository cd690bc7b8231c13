/- What the printed functions of term and of its reference come to: the plain words of St.lean. -/
import Derived.Test.YtcfoebkbahpnaaaDCx
namespace Go.Proofs.Ytcfoebkbahpnaaa.L
open Go.RowKit Go.Lib Go.Proofs.Ytcfoebkbahpnaaa Go.Proofs.YtcfoebkbahpnaaaW.PrintWords Go.Proofs.YtcfoebkbahpnaaaW.PrintLast
set_option linter.unusedVariables false
set_option linter.unusedSimpArgs false

theorem bt_of_drop {s:ByteArray} {i:Nat} {c:UInt8} {r:List UInt8} (h:s.data.toList.drop i=c::r):bt s (i:Int)=(c.toNat:Int)∧i<s.size∧s.data.toList.drop (i+1)=r:=by
 have hi:i<s.data.toList.length:=by
  rcases Nat.lt_or_ge i s.data.toList.length with h'|h'
  ·exact h'
  rw[List.drop_eq_nil_of_le h']at h;cases h
 have h2:=List.drop_eq_getElem_cons hi;rw[h]at h2;injection h2 with h3 h4
 have hs:i<s.size:=(by rw[← size_toList];exact hi);refine⟨?_,hs,h4.symm⟩;unfold bt;rw[dif_pos (by simpa using hs)];rw[h3];simp;rfl
theorem size_of_drop {s:ByteArray} {i:Nat} (h:s.data.toList.drop i= []):s.size≤i:=by
 rw[← size_toList];exact List.drop_eq_nil_iff.1 h
theorem wrap_succ {n:Nat} (h:n<9223372036854775807):wrap64 ((n:Int)+1)=((n+1:Nat):Int):=by unfold wrap64;omega
theorem tl (s:ByteArray):s.toList=s.data.toList:=Lib.toList_data s
/-! ### bytes -/
theorem letter_eq (c:UInt8):term_letter.f (c.toNat:Int)=some (isLet c):=
 forall_byte (P:=fun c=>term_letter.f (c.toNat:Int)=some (isLet c)) (by decide+kernel) c
theorem digit_eq (c:UInt8):term_digit.f (c.toNat:Int)=some (isDig c):=
 forall_byte (P:=fun c=>term_digit.f (c.toNat:Int)=some (isDig c)) (by decide+kernel) c
theorem iri_eq (c:UInt8):iriB c=iriC c:=forall_byte (P:=fun c=>iriB c=iriC c) (by decide+kernel) c
/-! ### names -/
theorem named_loop (s:ByteArray): ∀ (r:List UInt8) (i:Nat),s.data.toList.drop i=r→i≤32→
 Ev (fun k=>term_named.l0 k s (i:Int)) ((i+((r.take (32 - i)).takeWhile nameB).length:Nat):Int):=by
 intro r;induction r with
 |nil=>
  intro i hd hi;have:=size_of_drop hd;refine Ev.step (fun k=>by rw[term_named.l0]) ?_;simp only[if_neg (show ¬((i:Int)<(s.size:Int))by omega)];simp only[List.take_nil,List.takeWhile_nil,List.length_nil,Nat.add_zero];exact Ev.now _
 |cons c r ih=>
  intro i hd hi;obtain⟨hb,his,hr⟩:=bt_of_drop hd;refine Ev.step (fun k=>by rw[term_named.l0]) ?_;by_cases h32:i=32
  ·subst h32;simp only[if_pos (show((32:Nat):Int)<(s.size:Int)by omega),if_neg (show ¬(((32:Nat):Int)<32)by omega)];simp only[Nat.sub_self,List.take_zero,List.takeWhile_nil,List.length_nil,Nat.add_zero];exact Ev.now _
  simp only[if_pos (show(i:Int)<(s.size:Int)by omega),if_pos (show(i:Int)<32 by omega),if_pos (show(0:Int)≤(i:Int)by omega),hb,letter_eq,digit_eq,Option.bind_some,wrap_succ (show i<9223372036854775807 by omega)];have e:32 - i=(32 - (i+1))+1:=(by omega);rw[e,List.take_succ_cons];have h:=ih (i+1) hr (by omega);by_cases hn:nameB c=true
  ·rw[List.takeWhile_cons_of_pos hn,List.length_cons];rw[show i+(((r.take (32 - (i+1))).takeWhile nameB).length+1)=i+1+((r.take (32 - (i+1))).takeWhile nameB).length by omega];unfold nameB at hn;by_cases h1:isLet c=true
   ·simp only[h1,if_true];exact h
   simp only[h1,Bool.false_eq_true,if_false];by_cases h2:isDig c=true
   ·simp only[h2,if_true];exact h
   have h3:c.toNat=95:=(by simpa [h1,h2]using hn);simp only[h2,Bool.false_eq_true,if_false,h3,if_pos (show((95:Nat):Int)=95 from rfl)];exact h
  rw[List.takeWhile_cons_of_neg hn,List.length_nil,Nat.add_zero];unfold nameB at hn;simp only[Bool.or_eq_true,not_or,Bool.not_eq_true]at hn;obtain⟨⟨h1,h2⟩,h3⟩:=hn;have h3':¬((c.toNat:Int)=95):=by
   (intro h;have:c.toNat=95:=by omega);simp[this]at h3
  simp only[h1,h2,Bool.false_eq_true,if_false,if_neg h3'];exact Ev.now _
theorem named_ev (s:ByteArray):Ev (fun k=>term_named.f k s) ((nameN s.data.toList:Nat):Int):=by
 unfold term_named.f;simp only[tl];cases hl:s.data.toList with
 |nil=>
  simp only[if_true];refine Ev.step (fun k=>by rw[term_named.j0]) ?_;simp only[if_true];exact Ev.now _
 |cons c r=>
  obtain⟨hb,his,hr⟩:=bt_of_drop (s:=s) (i:=0) (by rw[List.drop_zero];exact hl);simp only[if_neg (show ¬(c::r= [])by simp),if_pos (show(0:Int)<(s.size:Int)by omega),show bt s 0=(c.toNat:Int)from hb,letter_eq,Option.bind_some];refine Ev.step (fun k=>by rw[term_named.j0]) ?_;by_cases h1:isLet c=true
  ·simp only[h1,Bool.not_true,Bool.false_eq_true,if_false];rw[show nameN (c::r)=1+((r.take 31).takeWhile nameB).length by simp[nameN,h1]];exact named_loop s r 1 hr (by omega)
  simp only[h1,Bool.not_false,if_true];rw[show nameN (c::r)=0 by simp[nameN,h1]];exact Ev.now _
theorem okName_iff (l:List UInt8):okName l=(!l.isEmpty && (nameN l==l.length)):=by
 cases l with
 |nil=>rfl
 |cons c r=>
  rw[Bool.eq_iff_iff];constructor
  ·intro h;obtain⟨h1,h2⟩:=okName_nameN h;simp[h1]
  intro h;simp only[List.isEmpty_cons,Bool.not_false,Bool.true_and,beq_iff_eq]at h;have:=nameN_ok (l:=c::r) (by rw[h,List.length_cons];omega);rwa[h,List.take_length]at this
theorem isName_ev (s:ByteArray):Ev (fun k=>term_IsName.f k s) (okName s.data.toList):=by
 unfold term_IsName.f;simp only[tl,okName_iff];cases hl:s.data.toList with
 |nil=>simp only[if_true];exact Ev.now _
 |cons c r=>
  simp only[if_neg (show ¬(c::r= [])by simp)];refine Ev.bind (named_ev s) ?_;rw[hl];have hz:s.size=(c::r).length:=(by rw[← size_toList,hl]);rw[hz];have e:((((nameN (c::r):Nat):Int)==(((c::r).length:Nat):Int)):Bool)=(!(c::r).isEmpty && (nameN (c::r)==(c::r).length)):=by
   rw[Bool.eq_iff_iff];simp only[List.isEmpty_cons,Bool.not_false,Bool.true_and,beq_iff_eq];omega
  rw[e];exact Ev.now _
theorem isIri_eq (s:ByteArray):term_isIri.f s=some (okIri s.data.toList):=by
 unfold term_isIri.f okIri;rw[← size_toList];have e:(iriB:UInt8→Bool)=iriC:=funext iri_eq;rw[e];cases s.data.toList<;>simp
/-! ### texts and languages -/
theorem isText_loop (s:ByteArray) (hs:s.size≤4096): ∀ (r:List UInt8) (i:Nat),s.data.toList.drop i=r→i≤s.size→
 Ev (fun k=>term_isText.l0 k s (i:Int)) (r.all textB):=by
 intro r;induction r with
 |nil=>
  intro i hd hi;have:=size_of_drop hd;refine Ev.step (fun k=>by rw[term_isText.l0]) ?_;simp only[if_neg (show ¬((i:Int)<(s.size:Int))by omega)];exact Ev.now _
 |cons c r ih=>
  intro i hd hi;obtain⟨hb,his,hr⟩:=bt_of_drop hd;refine Ev.step (fun k=>by rw[term_isText.l0]) ?_;simp only[if_pos (show(i:Int)<(s.size:Int)by omega),if_pos (show(0:Int)≤(i:Int)by omega),hb,wrap_succ (show i<9223372036854775807 by omega)];have h:=ih (i+1) hr (by omega);rw[List.all_cons];by_cases h0:c.toNat=10
  ·have e:textB c=true:=(by simp[textB,h0]);simp only[h0,e,Bool.true_and];simp only[if_pos (show((10:Nat):Int)<32 by decide),if_pos (show((10:Nat):Int)=10 from rfl)];exact h
  by_cases h1:c.toNat=9
  ·have e:textB c=true:=(by simp[textB,h1]);simp only[h1,e,Bool.true_and];simp only[if_pos (show((9:Nat):Int)<32 by decide),if_neg (show ¬(((9:Nat):Int)=10)by decide),if_pos (show((9:Nat):Int)=9 from rfl)];exact h
  simp only[if_neg (show ¬((c.toNat:Int)=10)by omega),if_neg (show ¬((c.toNat:Int)=9)by omega)];by_cases h2:c.toNat<32
  ·have e:textB c=false:=(by simp[textB,h0,h1];omega);simp only[if_pos (show(c.toNat:Int)<32 by omega),e,Bool.false_and];exact Ev.now _
  simp only[if_neg (show ¬((c.toNat:Int)<32)by omega)];by_cases h3:c.toNat>126
  ·have e:textB c=false:=(by simp[textB,h0,h1];omega);simp only[if_pos (show(c.toNat:Int)>126 by omega),e,Bool.false_and];exact Ev.now _
  have e:textB c=true:=(by simp[textB,h0,h1];omega);simp only[if_neg (show ¬((c.toNat:Int)>126)by omega),e,Bool.true_and];exact h
theorem isText_ev (s:ByteArray):Ev (fun k=>term_isText.f k s) (okText s.data.toList):=by
 unfold term_isText.f okText;rw[size_toList];by_cases h:s.size≤4096
 ·simp only[if_neg (show ¬((s.size:Int)>4096)by omega),decide_eq_true h,Bool.true_and];exact isText_loop s h _ 0 rfl (by omega)
 simp only[if_pos (show(s.size:Int)>4096 by omega),decide_eq_false h,Bool.false_and];exact Ev.now _
theorem isLang_loop (s:ByteArray) (hs:s.size≤4096): ∀ (r:List UInt8) (i:Nat),s.data.toList.drop i=r→i≤s.size→
 Ev (fun k=>term_isLang.l0 k s (i:Int)) (r.all langB):=by
 intro r;induction r with
 |nil=>
  intro i hd hi;have:=size_of_drop hd;refine Ev.step (fun k=>by rw[term_isLang.l0]) ?_;simp only[if_neg (show ¬((i:Int)<(s.size:Int))by omega)];exact Ev.now _
 |cons c r ih=>
  intro i hd hi;obtain⟨hb,his,hr⟩:=bt_of_drop hd;refine Ev.step (fun k=>by rw[term_isLang.l0]) ?_;simp only[if_pos (show(i:Int)<(s.size:Int)by omega),if_pos (show(0:Int)≤(i:Int)by omega),hb,wrap_succ (show i<9223372036854775807 by omega)];have h:=ih (i+1) hr (by omega);rw[List.all_cons];by_cases h2:c.toNat<97
  ·have e:langB c=false:=(by simp[langB];omega);simp only[if_pos (show(c.toNat:Int)<97 by omega),e,Bool.false_and];exact Ev.now _
  simp only[if_neg (show ¬((c.toNat:Int)<97)by omega)];by_cases h3:c.toNat>122
  ·have e:langB c=false:=(by simp[langB];omega);simp only[if_pos (show(c.toNat:Int)>122 by omega),e,Bool.false_and];exact Ev.now _
  have e:langB c=true:=(by simp[langB];omega);simp only[if_neg (show ¬((c.toNat:Int)>122)by omega),e,Bool.true_and];exact h
theorem isLang_ev (s:ByteArray):Ev (fun k=>term_isLang.f k s) (okLang s.data.toList):=by
 unfold term_isLang.f okLang;rw[size_toList];simp only[tl];by_cases h0:s.data.toList= []
 ·simp only[h0,if_true];refine Ev.step (fun k=>by rw[term_isLang.j0]) ?_;simp only[if_true];exact Ev.now _
 have e0:s.data.toList.isEmpty=false:=(by simpa using h0);simp only[if_neg h0,e0];refine Ev.step (fun k=>by rw[term_isLang.j0]) ?_;by_cases h:s.size≤8
 ·simp only[decide_eq_false (show ¬((s.size:Int)>8)by omega),decide_eq_true h,Bool.not_false,Bool.true_and,Bool.false_eq_true,if_false];exact isLang_loop s (by omega) _ 0 rfl (by omega)
 simp only[decide_eq_true (show(s.size:Int)>8 by omega),decide_eq_false h,Bool.not_false,Bool.true_and,Bool.false_and,if_true];exact Ev.now _
/-! ### term.Check -/
def TT (k : Int) (a b c : ByteArray) : Tm := ⟨k, a.data.toList, b.data.toList, c.data.toList⟩
def T (t : S50) : Tm := TT t.f0 t.f1 t.f2 t.f3
def e02 (b : Bool) : Int := if b then 0 else 2
theorem ne_empty {l:List UInt8} (h:¬ l= []):l.isEmpty=false:=by simpa using h
theorem tcheck_ev (k0:Int) (a b c:ByteArray):Ev (fun k=>term_Check.f k k0 a b c) (e02 (okTm (TT k0 a b c))):=by
 have main:Ev (fun k=>term_Check.j0 k false (if b.data.toList= []then(c.data.toList== [])else false) k0 a b c) (e02 (okTm (TT k0 a b c))):=by
  refine Ev.step (fun k=>by rw[term_Check.j0]) ?_;unfold okTm TT;simp only[tl];by_cases h2:k0=2
  ·subst h2;simp only[if_neg (show ¬((2:Int)=0)by decide),if_neg (show ¬((2:Int)=1)by decide),if_neg (show ¬((2:Int)=3)by decide),if_true];refine Ev.step (fun k=>by rw[term_Check.j1]) ?_;simp only[tl,show((2:Int)==4)=false from rfl,Bool.false_eq_true,if_false,if_true];refine Ev.bind (isText_ev a) ?_;cases hx:okText a.data.toList with
   |false=>simp only[Bool.false_eq_true,if_false,Bool.false_and];exact Ev.now _
   |true=>
    simp only[if_true,Bool.true_and];by_cases hb:b.data.toList= []
    ·simp only[hb,if_true,List.isEmpty_nil,Bool.true_or,Bool.true_and];by_cases hc:c.data.toList= []
     ·simp only[hc,if_true,List.isEmpty_nil,Bool.true_or];exact Ev.now _
     simp only[if_neg hc,ne_empty hc,Bool.false_or];refine Ev.bind (isLang_ev c) ?_;cases okLang c.data.toList<;>simp only[Bool.false_eq_true,if_false,if_true]<;>exact Ev.now _
    simp only[if_neg hb,ne_empty hb,Bool.false_or,isIri_eq,Option.bind_some,Bool.false_and];cases okIri b.data.toList with
    |false=>simp only[Bool.false_eq_true,if_false,Bool.false_and];exact Ev.now _
    |true=>
     simp only[if_true,Bool.true_and,Bool.or_false];by_cases hc:c.data.toList= []
     ·simp only[hc,if_true,List.isEmpty_nil];exact Ev.now _
     simp only[if_neg hc,ne_empty hc];exact Ev.now _
  simp only[if_neg h2];have hbare:(if b.data.toList= []then(c.data.toList== [])else false)=(b.data.toList.isEmpty && c.data.toList.isEmpty):=by
   cases b.data.toList<;>cases c.data.toList<;>simp
  simp only[hbare];generalize (b.data.toList.isEmpty && c.data.toList.isEmpty)=bare;by_cases h0:k0=0
  ·subst h0;simp only[if_true];cases bare
   ·simp only[Bool.false_eq_true,if_false,Bool.false_and];exact Ev.now _
   simp only[if_true,Bool.true_and];by_cases ha:a.data.toList= []
   ·simp only[ha,if_true,List.isEmpty_nil];exact Ev.now _
   simp only[if_neg ha,ne_empty ha];exact Ev.now _
  simp only[if_neg h0];by_cases h1:k0=1
  ·subst h1;simp only[if_true,isIri_eq,Option.bind_some];cases bare
   ·simp only[Bool.false_eq_true,if_false,Bool.false_and];exact Ev.now _
   simp only[if_true,Bool.true_and];cases okIri a.data.toList<;>simp only[Bool.false_eq_true,if_false,if_true]<;>exact Ev.now _
  simp only[if_neg h1];have hj: ∀ x:Bool,x=decide (k0=3∨k0=4)→Ev (fun k=>term_Check.j1 k false bare k0 x k0 a b c) (e02 (bare && (if k0=3∨k0=4 then okName a.data.toList else false))):=by
   intro x hx;refine Ev.step (fun k=>by rw[term_Check.j1]) ?_;by_cases h34:k0=3∨k0=4
   ·rw[decide_eq_true h34]at hx;subst hx;simp only[if_true,if_pos h34];cases bare
    ·simp only[Bool.false_eq_true,if_false,Bool.false_and];exact Ev.now _
    simp only[if_true,Bool.true_and];refine Ev.bind (isName_ev a) ?_;cases okName a.data.toList<;>simp only[Bool.false_eq_true,if_false,if_true]<;>exact Ev.now _
   rw[decide_eq_false h34]at hx;subst hx;simp only[Bool.false_eq_true,if_false,if_neg h34,if_neg h2,Bool.and_false];exact Ev.now _
  by_cases h3:k0=3
  ·simp only[if_pos h3];exact hj _ (by simp[h3])
  simp only[if_neg h3];exact hj _ (by rw[Bool.eq_iff_iff];simp[h3])
 unfold term_Check.f;simp only[tl];by_cases hb:b.data.toList= []
 ·simp only[if_pos hb]at main ⊢;exact main
 simp only[if_neg hb]at main ⊢;exact main
/-! ### the reference's -/
def kindB (n : Int) (c : UInt8) : Bool := if n = 1 then iriC c else if n = 2 then textB c else if n = 3 then nameB c else if n = 4 then langB c else false
theorem okName_all (l:List UInt8):okName l=(decide (1≤l.length) && decide (l.length≤32) && l.all nameB && (match l with|c::_=>isLet c| []=>false)):=by
 cases l with
 |nil=>rfl
 |cons c r=>
  unfold okName;rw[Bool.eq_iff_iff];simp only[Bool.and_eq_true,decide_eq_true_eq,List.length_cons,List.all_cons];constructor
  ·rintro⟨⟨h1,h2⟩,h3⟩;exact⟨⟨⟨by omega,by omega⟩,by simp[nameB,h1],h2⟩,h1⟩
  rintro⟨⟨⟨h1,h2⟩,h3,h4⟩,h5⟩;exact⟨⟨h5,h4⟩,by omega⟩
end Go.Proofs.Ytcfoebkbahpnaaa.L
