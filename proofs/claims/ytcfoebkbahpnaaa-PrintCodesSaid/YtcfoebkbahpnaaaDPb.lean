/- What the printed function scope.Right comes to, and the names of patterns and leaves. -/
import Derived.Test.YtcfoebkbahpnaaaDPa
namespace Go.Proofs.Ytcfoebkbahpnaaa.L
open Go.RowKit Go.Lib Go.Proofs.Ytcfoebkbahpnaaa Go.Proofs.YtcfoebkbahpnaaaW.PrintWords Go.Proofs.YtcfoebkbahpnaaaW.PrintLast
set_option linter.unusedVariables false
set_option linter.unusedSimpArgs false

def opNeeds (kd : Int) : Int := if kd = 1 ∨ kd = 2 then 0 else if 7 ≤ kd ∧ kd ≤ 9 then 1 else if 3 ≤ kd ∧ kd ≤ 6 then 2 else -1
theorem needs_ev (a0:Int) (l1:List S53) (l2:List ByteArray) (l3:List (List S50)) (l4:List S112) (a5:ByteArray) (a6:Bool):Ev (fun k=>scope_Needs.f k a0 l1 l2 l3 l4 a5 a6) (opNeeds a0):=by
 (refine Ev.at 2 fun k=>?_);unfold scope_Needs.f opNeeds;by_cases h1:a0=1
 ·subst h1;rfl
 by_cases h2:a0=2
 ·subst h2;rfl
 by_cases h3:a0=3
 ·subst h3;rfl
 by_cases h4:a0=4
 ·subst h4;rfl
 by_cases h5:a0=5
 ·subst h5;rfl
 by_cases h6:a0=6
 ·subst h6;rfl
 by_cases h7:a0=7
 ·subst h7;rfl
 by_cases h8:a0=8
 ·subst h8;rfl
 by_cases h9:a0=9
 ·subst h9;rfl
 rw[if_neg h1,if_neg (by omega),if_neg (by omega),if_neg (by omega)];simp only[scope_Needs.j0,beq_eq_false_iff_ne.mpr h2,beq_eq_false_iff_ne.mpr h9,Bool.false_eq_true,if_false,if_neg h7,if_neg h8,scope_Needs.j1,if_neg h3,if_neg h4,if_neg h5,if_neg h6]
theorem rneeds_ev (a0:Int) (l1:List S53) (l2:List ByteArray) (l3:List (List S50)) (l4:List S112) (a5:ByteArray) (a6:Bool):Ev (fun k=>legationref07_Needs.f k a0 l1 l2 l3 l4 a5 a6) (opNeeds a0):=by
 (refine Ev.at 2 fun k=>?_);unfold legationref07_Needs.f opNeeds;by_cases h1:a0=1
 ·subst h1;rfl
 by_cases h2:a0=2
 ·subst h2;rfl
 by_cases h3:a0=3
 ·subst h3;rfl
 by_cases h4:a0=4
 ·subst h4;rfl
 by_cases h5:a0=5
 ·subst h5;rfl
 by_cases h6:a0=6
 ·subst h6;rfl
 by_cases h7:a0=7
 ·subst h7;rfl
 by_cases h8:a0=8
 ·subst h8;rfl
 by_cases h9:a0=9
 ·subst h9;rfl
 rw[if_neg h1,if_neg (by omega),if_neg (by omega),if_neg (by omega)];simp only[legationref07_Needs.j0,beq_eq_false_iff_ne.mpr h2,beq_eq_false_iff_ne.mpr h9,Bool.false_eq_true,if_false,if_neg h7,if_neg h8,legationref07_Needs.j1,if_neg h3,if_neg h4,if_neg h5,if_neg h6]
theorem needs_evO (o:S45):Ev (fun k=>scope_Needs.f k o.f0 o.f1 o.f2.f0 o.f2.f1 o.f3 o.f4 o.f5) (opNeeds o.f0):=needs_ev _ _ _ _ _ _ _
theorem opNeeds_le (kd:Int): -1≤opNeeds kd∧opNeeds kd≤2:=by
 unfold opNeeds;(repeat' split);all_goals omega
def lastOK (o : S45) : Bool :=
  if o.f0 = 1 then basicOK o.f1 else if o.f0 = 2 then tabV o.f2.f0 o.f2.f1 else if o.f0 = 8 then okName o.f4.data.toList else if o.f0 = 9 then okTm (TT 1 o.f4 ⟨#[]⟩ ⟨#[]⟩) else decide (0 ≤ opNeeds o.f0)
theorem j3_ev (o:S45) (ht:o.f1.length≤9223372036854775807) (b:Bool):Ev (fun k=>scope_Right.j3 k b o.f0 o.f1 o.f2.f0 o.f2.f1 o.f3 o.f4 o.f5) (!b && lastOK o):=by
 refine Ev.step (fun k=>by rw[scope_Right.j3]) ?_;cases b with
 |true=>simp only[if_true,Bool.not_true,Bool.false_and];exact Ev.now _
 |false=>
  simp only[Bool.false_eq_true,if_false,Bool.not_false,Bool.true_and];unfold lastOK;by_cases h1:o.f0=1
  ·simp only[if_pos h1];exact Ev.bind (basic_ev _ ht) (Ev.now _)
  by_cases h2:o.f0=2
  ·simp only[if_neg h1,if_pos h2];exact Ev.bind (tabV_ev _ _) (Ev.now _)
  by_cases h8:o.f0=8
  ·simp only[if_neg h1,if_neg h2,if_pos h8];exact Ev.bind (isName_ev _) (Ev.now _)
  by_cases h9:o.f0=9
  ·simp only[if_neg h1,if_neg h2,if_neg h8,if_pos h9];refine Ev.bind (tcheck_ev 1 o.f4 ⟨#[]⟩ ⟨#[]⟩) ?_;rw[show(e02 (okTm (TT 1 o.f4 ⟨#[]⟩ ⟨#[]⟩))==0)=okTm (TT 1 o.f4 ⟨#[]⟩ ⟨#[]⟩)by cases okTm (TT 1 o.f4 ⟨#[]⟩ ⟨#[]⟩)<;>rfl];exact Ev.now _
  simp only[if_neg h1,if_neg h2,if_neg h8,if_neg h9];exact Ev.bind (needs_evO o) (Ev.now _)
def formF (o : S45) : Bool := o.f0 == 7 || o.f0 == 8 || (o.f0 == 5 && decide (0 < o.f3.length))
def formOK (fl : Bool) (o : S45) : Bool := if fl = true then fcheck o.f3 == 0 else o.f3.length == 0
theorem j2_ev (o:S45) (ht:o.f1.length≤9223372036854775807) (fl:Bool):Ev (fun k=>scope_Right.j2 k fl o.f0 o.f1 o.f2.f0 o.f2.f1 o.f3 o.f4 o.f5) (formOK fl o && lastOK o):=by
 refine Ev.step (fun k=>by rw[scope_Right.j2]) ?_;unfold formOK;cases fl with
 |true=>
  simp only[if_true];refine Ev.bind (fcheck_ev o.f3) ?_;rw[show(fcheck o.f3==0)= !(fcheck o.f3 !=0)by rw[bne,Bool.not_not]];exact j3_ev o ht _
 |false=>
  simp only[Bool.false_eq_true,if_false];by_cases h:(o.f3.length:Int)>0
  ·simp only[if_pos h,show(o.f3.length==0)=false from beq_eq_false_iff_ne.mpr (by omega)];exact j3_ev o ht true
  simp only[if_neg h,show(o.f3.length==0)=true from beq_iff_eq.mpr (by omega)];exact j3_ev o ht false
theorem j1_ev (o:S45) (ht:o.f1.length≤9223372036854775807) (b:Bool):Ev (fun k=>scope_Right.j1 k b o.f0 o.f1 o.f2.f0 o.f2.f1 o.f3 o.f4 o.f5) (!b && (formOK (formF o) o && lastOK o)):=by
 refine Ev.step (fun k=>by rw[scope_Right.j1]) ?_;cases b with
 |true=>simp only[if_true,Bool.not_true,Bool.false_and];exact Ev.now _
 |false=>
  simp only[Bool.false_eq_true,if_false,Bool.not_false,Bool.true_and];unfold formF;by_cases h7:o.f0=7
  ·simp only[if_pos h7,show(o.f0==7)=true from beq_iff_eq.mpr h7,Bool.true_or];exact j2_ev o ht true
  by_cases h8:o.f0=8
  ·simp only[if_neg h7,if_pos h8,beq_eq_false_iff_ne.mpr h7,show(o.f0==8)=true from beq_iff_eq.mpr h8,Bool.true_or,Bool.or_true];exact j2_ev o ht true
  by_cases h5:o.f0=5
  ·simp only[if_neg h7,if_neg h8,if_pos h5,beq_eq_false_iff_ne.mpr h7,beq_eq_false_iff_ne.mpr h8,Bool.false_or,show(o.f0==5)=true from beq_iff_eq.mpr h5,Bool.true_and];rw[show decide ((o.f3.length:Int)>0)=decide (0<o.f3.length)by rw[decide_eq_decide];omega];exact j2_ev o ht _
  simp only[if_neg h7,if_neg h8,if_neg h5,beq_eq_false_iff_ne.mpr h7,beq_eq_false_iff_ne.mpr h8,beq_eq_false_iff_ne.mpr h5,Bool.false_or,Bool.false_and];exact j2_ev o ht false
def silentB (o : S45) : Bool := if o.f0 = 9 then false else if o.f5 = true then true else if o.f0 = 8 then false else o.f4.toList != []
theorem j0_ev (o:S45) (ht:o.f1.length≤9223372036854775807) (b:Bool):Ev (fun k=>scope_Right.j0 k b o.f0 o.f1 o.f2.f0 o.f2.f1 o.f3 o.f4 o.f5) (!b && (!silentB o && (formOK (formF o) o && lastOK o))):=by
 refine Ev.step (fun k=>by rw[scope_Right.j0]) ?_;cases b with
 |true=>simp only[if_true,Bool.not_true,Bool.false_and];exact Ev.now _
 |false=>
  simp only[Bool.false_eq_true,if_false,Bool.not_false,Bool.true_and];unfold silentB;by_cases h9:o.f0=9
  ·by_cases h8:o.f0=8
   ·omega
   simp only[if_pos h9,if_neg h8];exact j1_ev o ht false
  simp only[if_neg h9];cases hs:o.f5 with
  |true=>
   have e:=j1_ev o ht true;rw[hs]at e;simp only[if_true];exact e
  |false=>
   simp only[Bool.false_eq_true,if_false];have e0:=j1_ev o ht false;have e1:=j1_ev o ht (o.f4.toList != []);rw[hs]at e0 e1;by_cases h8:o.f0=8
   ·simp only[if_pos h8];exact e0
   simp only[if_neg h8];exact e1
def bareB (o : S45) : Bool := (!(o.f0 == 1) && decide (0 < o.f1.length)) || (!(o.f0 == 2) && decide (0 < o.f2.f0.length + o.f2.f1.length))
def opOK (o : S45) : Bool := !bareB o && (!silentB o && (formOK (formF o) o && lastOK o))
/-- an operation that memory can hold -/
def opB (o : S45) : Prop := o.f1.length ≤ 4611686018427387904 ∧ o.f2.f0.length + o.f2.f1.length ≤ 4611686018427387904 ∧ o.f4.size ≤ maxLen ∧ (∀ t ∈ o.f1, t.f0.f1.size ≤ maxLen ∧ t.f1.f1.size ≤ maxLen ∧ t.f2.f1.size ≤ maxLen) ∧ (∀ s ∈ o.f2.f0, s.size ≤ maxLen)
theorem opOK_ev (o:S45) (hb:opB o):Ev (fun k=>scope_Right.f k o.f0 o.f1 o.f2.f0 o.f2.f1 o.f3 o.f4 o.f5) (opOK o):=by
 have ht:o.f1.length≤9223372036854775807:=(by have:=hb.1;omega);have hw:wrap64 ((o.f2.f0.length:Int)+(o.f2.f1.length:Int))=((o.f2.f0.length+o.f2.f1.length:Nat):Int):=(by have:=hb.2.1;unfold wrap64;omega);have hd:decide (((o.f2.f0.length+o.f2.f1.length:Nat):Int)>0)=decide (0<o.f2.f0.length+o.f2.f1.length):=(by rw[decide_eq_decide];omega);unfold scope_Right.f opOK bareB;rw[hw,hd];by_cases h1:o.f0=1
 ·simp only[if_pos h1,if_neg (show ¬ o.f0=2 by omega),show(o.f0==1)=true from beq_iff_eq.mpr h1,show(o.f0==2)=false from beq_eq_false_iff_ne.mpr (by omega),Bool.not_true,Bool.false_and,Bool.false_or,Bool.not_false,Bool.true_and];exact j0_ev o ht _
 simp only[if_neg h1,beq_eq_false_iff_ne.mpr h1,Bool.not_false,Bool.true_and];by_cases hl:0<o.f1.length
 ·simp only[if_pos (show(o.f1.length:Int)>0 by omega),decide_eq_true hl,Bool.true_or];exact j0_ev o ht true
 simp only[if_neg (show ¬(o.f1.length:Int)>0 by omega),decide_eq_false hl,Bool.false_or];by_cases h2:o.f0=2
 ·simp only[if_pos h2,show(o.f0==2)=true from beq_iff_eq.mpr h2,Bool.not_true,Bool.false_and];exact j0_ev o ht false
 simp only[if_neg h2,beq_eq_false_iff_ne.mpr h2,Bool.not_false,Bool.true_and];exact j0_ev o ht _
theorem opOK_needs {o:S45} (h:opOK o=true):0≤opNeeds o.f0:=by
 unfold opOK at h;simp only[Bool.and_eq_true]at h;have hl:=h.2.2.2;unfold lastOK at hl;by_cases h1:o.f0=1
 ·rw[h1];decide
 by_cases h2:o.f0=2
 ·rw[h2];decide
 by_cases h8:o.f0=8
 ·rw[h8];decide
 by_cases h9:o.f0=9
 ·rw[h9];decide
 rw[if_neg h1,if_neg h2,if_neg h8,if_neg h9]at hl;exact of_decide_eq_true hl
theorem opOK_tri {o:S45} (h:opOK o=true) (h1:o.f0≠1):o.f1= []:=by
 unfold opOK bareB at h;rw[show(o.f0==1)=false from beq_eq_false_iff_ne.mpr h1]at h;simp only[Bool.and_eq_true,Bool.not_eq_true',Bool.or_eq_false_iff,Bool.not_false,Bool.true_and,decide_eq_false_iff_not]at h;exact List.eq_nil_of_length_eq_zero (by omega)
theorem opOK_tab {o:S45} (h:opOK o=true) (h2:o.f0≠2):o.f2.f0= []∧o.f2.f1= []:=by
 unfold opOK bareB at h;rw[show(o.f0==2)=false from beq_eq_false_iff_ne.mpr h2]at h;simp only[Bool.and_eq_true,Bool.not_eq_true',Bool.or_eq_false_iff,Bool.not_false,Bool.true_and,decide_eq_false_iff_not]at h;exact⟨List.eq_nil_of_length_eq_zero (by omega),List.eq_nil_of_length_eq_zero (by omega)⟩
theorem opOK_basic {o:S45} (h:opOK o=true) (h1:o.f0=1):o.f1.length≤32∧ ∀ t ∈ o.f1,patOK t=true:=by
 unfold opOK lastOK basicOK at h;rw[if_pos h1]at h;simp only[Bool.and_eq_true,decide_eq_true_eq,List.all_eq_true]at h;exact⟨h.2.2.2.2,h.2.2.2.1⟩
theorem opOK_table {o:S45} (h:opOK o=true) (h2:o.f0=2):o.f2.f0.length≤32∧o.f2.f1.length≤64∧ ∀ r ∈ o.f2.f1,r.length=o.f2.f0.length:=by
 unfold opOK lastOK tabV at h;rw[if_neg (by omega),if_pos h2]at h;simp only[Bool.and_eq_true,decide_eq_true_eq,List.all_eq_true]at h;refine⟨h.2.2.2.1.1.1,h.2.2.2.1.1.2,fun r hr=>?_⟩;have:=h.2.2.2.2 r hr;unfold rowV at this;simp only[Bool.and_eq_true,beq_iff_eq]at this;exact this.1
theorem opOK_lens {o:S45} (h:opOK o=true):o.f1.length≤32∧o.f2.f0.length≤32∧o.f2.f1.length≤64∧ ∀ r ∈ o.f2.f1,r.length=o.f2.f0.length:=by
 have a:o.f1.length≤32:=by
  by_cases h1:o.f0=1
  ·exact(opOK_basic h h1).1
  rw[opOK_tri h h1];decide
 refine⟨a,?_⟩;by_cases h2:o.f0=2
 ·exact opOK_table h h2
 rw[(opOK_tab h h2).1,(opOK_tab h h2).2];exact⟨by decide,by decide,fun r hr=>by cases hr⟩
/-! ### names -/
def vstepP (kd : Int) (x : ByteArray) (out : List ByteArray) : List ByteArray := if kd = 4 then (if (B out).contains x.data.toList = true then out else out ++ [x]) else out
theorem vstep_ev (kd:Int) (x:ByteArray) (out:List ByteArray) (h:out.length≤2):Ev (fun k=>triples_vstep k kd x out) (vstepP kd x out):=by
 unfold triples_vstep vstepP;by_cases h4:kd=4
 ·simp only[if_pos h4];refine Ev.bind (contains_ev out (by omega) x) ?_;cases (B out).contains x.data.toList with
  |true=>simp only[if_true];exact Ev.now _
  |false=>simp only[Bool.false_eq_true,if_false,if_pos (show out.length<8796093022208 by omega)];exact Ev.now _
 simp only[if_neg h4];exact Ev.now _
theorem vstepP_len (kd:Int) (x:ByteArray) (out:List ByteArray):(vstepP kd x out).length≤out.length+1∧ ∀ s ∈ vstepP kd x out,s ∈ out∨s=x:=by
 unfold vstepP;by_cases h4:kd=4
 ·rw[if_pos h4];split
  ·exact⟨by omega,fun s hs=> .inl hs⟩
  exact⟨by simp,fun s hs=>by simpa using hs⟩
 rw[if_neg h4];exact⟨by omega,fun s hs=> .inl hs⟩
def varsOf (t : S53) : List ByteArray := vstepP t.f2.f0 t.f2.f1 (vstepP t.f1.f0 t.f1.f1 (vstepP t.f0.f0 t.f0.f1 []))
theorem varsOf_len (t:S53):(varsOf t).length≤3∧ ∀ s ∈ varsOf t,s=t.f0.f1∨s=t.f1.f1∨s=t.f2.f1:=by
 have a:=vstepP_len t.f0.f0 t.f0.f1 [];have b:=vstepP_len t.f1.f0 t.f1.f1 (vstepP t.f0.f0 t.f0.f1 []);have c:=vstepP_len t.f2.f0 t.f2.f1 (vstepP t.f1.f0 t.f1.f1 (vstepP t.f0.f0 t.f0.f1 []));refine⟨?_,fun s hs=>?_⟩
 ·have:=a.1;have:=b.1;have:=c.1;unfold varsOf;simp at*;omega
 rcases c.2 s hs with h|h
 ·rcases b.2 s h with h|h
  ·rcases a.2 s h with h|h
   ·cases h
   exact .inl h
  exact .inr (.inl h)
 exact .inr (.inr h)
theorem vars_ev (t:S53):Ev (fun k=>triples_Vars.f k t.f0.f0 t.f0.f1 t.f0.f2 t.f0.f3 t.f1.f0 t.f1.f1 t.f1.f2 t.f1.f3 t.f2.f0 t.f2.f1 t.f2.f2 t.f2.f3) (varsOf t):=by
 unfold triples_Vars.f varsOf;have a:=(vstepP_len t.f0.f0 t.f0.f1 []).1;have b:=(vstepP_len t.f1.f0 t.f1.f1 (vstepP t.f0.f0 t.f0.f1 [])).1;refine Ev.bind (vstep_ev _ _ _ (by simp)) (Ev.bind (vstep_ev _ _ _ (by simp at a;omega)) (vstep_ev _ _ _ (by simp at a;omega)))
def leafT : List S53 → List ByteArray → List ByteArray
  | [], O => O
  | t :: r, O => leafT r ((varsOf t).reverse ++ O)
theorem leafT_len: ∀ (l:List S53) (O:List ByteArray),(leafT l O).length≤3*l.length+O.length
 | [],O=>by simp[leafT]
 |t::r,O=>by
  have:=leafT_len r ((varsOf t).reverse++O);have:=(varsOf_len t).1;unfold leafT;simp at*;omega
theorem leaf1_ev: ∀ (l:List S53) (O:List ByteArray),O.length+3*l.length<4294967296→(∀ t ∈ l,t.f0.f1.size≤maxLen∧t.f1.f1.size≤maxLen∧t.f2.f1.size≤maxLen)→Ev (fun k=>leaf1 k l O) (leafT l O)
 | [],O,_,_=>by simp only[leaf1,leafT];exact Ev.now _
 |t::r,O,hl,hb=>by
  have h3:=(varsOf_len t).1;simp only[leaf1,leafT];refine Ev.bind (vars_ev t) ?_;simp only[List.length_cons]at hl;have hbt:=hb t (List.mem_cons_self ..);simp only[if_pos (show(varsOf t).length+O.length<4294967296∧(∀ s ∈ varsOf t,s.size≤maxLen)from⟨by omega,fun s hs=>by
   rcases(varsOf_len t).2 s hs with rfl|rfl|rfl
   ·exact hbt.1
   ·exact hbt.2.1
   exact hbt.2.2⟩)]
  exact leaf1_ev r _ (by simp;omega) (fun t' ht'=>hb t' (List.mem_cons_of_mem _ ht'))
theorem leaf2_lenP (m:Nat): ∀ l O,(leaf2 m l O).length=(m+1)*l.length+O.length
 | [],O=>by simp[leaf2]
 |v::r,O=>by rw[leaf2,leaf2_lenP m r];simp[Nat.mul_add];omega
def leafP (o : S45) : List ByteArray := leaf2 o.f2.f1.length o.f2.f0 (leafT o.f1 [])
theorem leafP_len {o:S45} (h:opOK o=true):(leafP o).length≤4096:=by
 obtain⟨a,b,c,_⟩:=opOK_lens h;have d:=leafT_len o.f1 [];unfold leafP;rw[leaf2_lenP];have:=Nat.mul_le_mul (show o.f2.f1.length+1≤65 by omega) b;simp at d;omega
theorem leaf_ev {o:S45} (h:opOK o=true) (hb:opB o):Ev (fun k=>scope_leaf.f k o.f1 o.f2.f0 o.f2.f1) (leafP o):=by
 obtain⟨a,b,c,d⟩:=opOK_lens h;have hl:=leafT_len o.f1 [];unfold scope_leaf.f;refine Ev.bind (leaf1_ev o.f1 [] (by simp;omega) hb.2.2.2.1) ?_;have:=Nat.mul_le_mul (show o.f2.f1.length+1≤65 by omega) b;simp only[List.length_nil]at hl;simp only[if_pos (show o.f1.length<4294967296∧(o.f2.f1.length+1)*o.f2.f0.length+(leafT o.f1 []).length<4294967296∧(∀ s ∈ o.f2.f0,s.size≤maxLen)∧(∀ r ∈ o.f2.f1,o.f2.f0.length≤r.length)from⟨by omega,by omega,hb.2.2.2.2,fun r hr=>Nat.le_of_eq (d r hr).symm⟩)];exact Ev.now _
end Go.Proofs.Ytcfoebkbahpnaaa.L
