/- What the reference's names and tasks come to; lists are the same as themselves; the law PlanTasks. -/
import Derived.Test.YtcfoebkbahpnaaaDQc
namespace Go.Proofs.Ytcfoebkbahpnaaa.L
open Go.RowKit Go.Lib Go.Proofs.Ytcfoebkbahpnaaa Go.Proofs.YtcfoebkbahpnaaaW.PrintWords Go.Proofs.YtcfoebkbahpnaaaW.PrintLast
set_option linter.unusedVariables false
set_option linter.unusedSimpArgs false

theorem rnms_loop (x:List ByteArray) (hx:x.length≤9223372036854775807): ∀ (r:List ByteArray) (i:Nat),x.drop i=r→
 Ev (fun k=>legationref21_Names.l0 k x (i:Int)) (nmsOK (B (x.take i)) (B r) && decide (x.length≤8)):=by
 intro r;induction r with
 |nil=>
  intro i hd;have:=len_of_drop hd;refine Ev.step (fun k=>by rw[legationref21_Names.l0]) ?_;simp only[if_neg (show ¬((i:Int)<(x.length:Int))by omega)];rw[show B []= []from rfl,nmsOK,Bool.true_and,show decide ((x.length:Int)≤8)=decide (x.length≤8)by rw[decide_eq_decide];omega];exact Ev.now _
 |cons c r ih=>
  intro i hd;obtain⟨hg,hi,hr,ht⟩:=get_of_drop hd ByteArray.empty;refine Ev.step (fun k=>by rw[legationref21_Names.l0]) ?_;have e:rdOf ByteArray.empty x (i:Int)=c:=hg;simp only[if_pos (show(i:Int)<(x.length:Int)by omega),if_pos (show(0:Int)≤(i:Int)by omega),if_pos (show(i:Int)≤(x.length:Int)by omega),e,wrap_succ (show i<9223372036854775807 by omega),Int.toNat_natCast];rw[show B (c::r)=c.data.toList::B r from rfl,nmsOK];refine Ev.bind (rIri_ev c) ?_;cases okIri c.data.toList with
  |false=>simp only[Bool.false_eq_true,if_false,Bool.false_and];exact Ev.now _
  |true=>
   simp only[if_true,Bool.true_and];refine Ev.bind (in_ev (x.take i) (by rw[List.length_take];omega) c) ?_;cases (B (x.take i)).contains c.data.toList with
   |true=>simp only[if_true,Bool.not_true,Bool.false_and];exact Ev.now _
   |false=>
    simp only[Bool.false_eq_true,if_false,Bool.not_false,Bool.true_and];have h:=ih (i+1) hr;rw[ht]at h;rw[show B (x.take i)++ [c.data.toList]=B (x.take i++ [c])by simp[B]];exact h
theorem rnms_ev (x:List ByteArray) (hx:x.length≤9223372036854775807):Ev (fun k=>legationref21_Names.f k x) (decide (namesP x=0)):=by
 have h:=rnms_loop x hx x 0 rfl;have e:(nmsOK [] (B x) && decide (x.length≤8))=decide (namesP x=0):=by
  unfold namesP;by_cases h8:x.length>8
  ·rw[if_pos h8,decide_eq_false (show ¬ x.length≤8 by omega),Bool.and_false];rfl
  rw[if_neg h8,decide_eq_true (show x.length≤8 by omega),Bool.and_true];cases nmsOK [] (B x)<;>rfl
 rw[← e];exact h
theorem inner_loop {c:List S45} (hc:c.length≤128) {fs:List Int} (hF: ∀ t,t<c.length→FromAt c t (fs.getD t 0)) (i:Nat) (hi:i<c.length): ∀ (d j:Nat),j+d=c.length→i<j→(∀ s,i<s→s<j→¬(isSv c s∧fs.getD s 0≤(i:Int)))→
 Ev (fun k=>legationref21_inner.l0 k c (i:Int) (j:Int)) (taskInn c fs c.length (i:Int))
 |0,j,hj,hij,hs=>by
  refine Ev.step (fun k=>by rw[legationref21_inner.l0]) ?_;simp only[if_neg (show ¬((j:Int)<(c.length:Int))by omega)];have:taskInn c fs c.length (i:Int)=false:=by
   rw[Bool.eq_false_iff];intro h;obtain⟨s,h1,h2,h3,h4⟩:=(inn_iff c fs i).1 h;exact hs s h4 (by omega) ⟨h2,h3⟩
  rw[this];exact Ev.now _
 |d+1,j,hj,hij,hs=>by
  refine Ev.step (fun k=>by rw[legationref21_inner.l0]) ?_;have next:¬(isSv c j∧fs.getD j 0≤(i:Int))→Ev (fun k=>legationref21_inner.l0 k c (i:Int) ((j+1:Nat):Int)) (taskInn c fs c.length (i:Int)):=fun h=>by
   refine inner_loop hc hF i hi d (j+1) (by omega) (by omega) (fun s h1 h2=>?_);rcases Nat.lt_or_ge s j with h3|h3
   ·exact hs s h1 h3
   have:s=j:=(by omega);rw[this];exact h
  simp only[if_pos (show(j:Int)<(c.length:Int)by omega),if_pos (show(0:Int)≤(j:Int)by omega),wrap_succ (show j<9223372036854775807 by omega)];by_cases h9:(rd_T45 c (j:Int)).f0=9
  ·simp only[if_pos h9];refine Ev.bind (rFrom_ev hc (by omega) (hF j (by omega))) ?_;by_cases hle:fs.getD j 0≤(i:Int)
   ·simp only[if_pos hle];rw[(inn_iff c fs i).2 ⟨j,by omega,h9,hle,hij⟩];exact Ev.now _
   simp only[if_neg hle];exact next (fun h=>hle h.2)
  simp only[if_neg h9];exact next (fun h=>h9 h.1)
theorem inner_ev {c:List S45} (hc:c.length≤128) {fs:List Int} (hF: ∀ t,t<c.length→FromAt c t (fs.getD t 0)) {i:Nat} (hi:i<c.length):Ev (fun k=>legationref21_inner.f k c (i:Int)) (taskInn c fs c.length (i:Int)):=by
 unfold legationref21_inner.f;rw[wrap_succ (show i<9223372036854775807 by omega)];exact inner_loop hc hF i hi (c.length - (i+1)) (i+1) (by omega) (by omega) (fun s h1 h2=>by omega)
theorem point_loop (x:List ByteArray) (hx:x.length≤9223372036854775807) (a:ByteArray): ∀ (r:List ByteArray) (i:Nat),x.drop i=r→
 Ev (fun k=>legationref21_point.l0 k x a (i:Int)) (idxOf a.data.toList (B r) i):=by
 intro r;induction r with
 |nil=>
  intro i hd;have:=len_of_drop hd;refine Ev.step (fun k=>by rw[legationref21_point.l0]) ?_;simp only[if_neg (show ¬((i:Int)<(x.length:Int))by omega)];exact Ev.now _
 |cons c r ih=>
  intro i hd;obtain⟨hg,hi,hr,_⟩:=get_of_drop hd ByteArray.empty;refine Ev.step (fun k=>by rw[legationref21_point.l0]) ?_;have e:rdOf ByteArray.empty x (i:Int)=c:=hg;simp only[if_pos (show(i:Int)<(x.length:Int)by omega),if_pos (show(0:Int)≤(i:Int)by omega),e,wrap_succ (show i<9223372036854775807 by omega),tl];rw[show B (c::r)=c.data.toList::B r from rfl,idxOf];by_cases h:c.data.toList=a.data.toList
  ·simp only[if_pos h,if_pos h.symm];exact Ev.now _
  simp only[if_neg h,if_neg (Ne.symm h)];exact ih (i+1) hr
theorem rtasks_loop {c:List S45} (hc:c.length≤128) {fs:List Int} (hF: ∀ t,t<c.length→FromAt c t (fs.getD t 0)) (names:List ByteArray) (hn:names.length≤9223372036854775807): ∀ (r:List S45) (i:Nat) (out:List S38),c.drop i=r→out.length≤2*i→
 Ev (fun k=>legationref21_Tasks.l0 k c names out (i:Int)) (out++tasksP c fs names i r):=by
 intro r;induction r with
 |nil=>
  intro i out hd ho;have:=len_of_drop hd;refine Ev.step (fun k=>by rw[legationref21_Tasks.l0]) ?_;simp only[if_neg (show ¬((i:Int)<(c.length:Int))by omega),tasksP,List.append_nil];exact Ev.now _
 |cons o r ih=>
  intro i out hd ho;obtain⟨hg,hi,hr,_⟩:=get_of_drop hd z45;have e:rd_T45 c (i:Int)=o:=hg;refine Ev.step (fun k=>by rw[legationref21_Tasks.l0]) ?_;simp only[if_pos (show(i:Int)<(c.length:Int)by omega),if_pos (show(0:Int)≤(i:Int)by omega),wrap_succ (show i<9223372036854775807 by omega),e,tasksP];refine Ev.bind (inner_ev hc hF hi) ?_;cases taskInn c fs c.length (i:Int)with
  |true=>simp only[if_true];exact ih (i+1) out hr (by omega)
  |false=>
   simp only[Bool.false_eq_true,if_false];have j2: ∀ out2:List S38,out2.length≤2*i+1→Ev (fun k=>legationref21_Tasks.j2 k c names out2 (i:Int)) (out2++(if o.f0=9 then [(⟨i,[],idxOf o.f4.data.toList (B names) 0,o.f5,(c.take i).drop (fs.getD i 0).toNat⟩:S38)]else [])++tasksP c fs names (i+1) r):=by
    intro out2 h2;refine Ev.step (fun k=>by rw[legationref21_Tasks.j2]) ?_;simp only[if_pos (show(i:Int)<(c.length:Int)by omega),if_pos (show(0:Int)≤(i:Int)by omega),wrap_succ (show i<9223372036854775807 by omega),e];by_cases h9:o.f0=9
    ·simp only[if_pos h9];have hp:Ev (fun k=>legationref21_point.f k names o.f4) (idxOf o.f4.data.toList (B names) 0):=point_loop names hn o.f4 names 0 rfl;refine Ev.bind hp ?_;have hf:=hF i hi;refine Ev.bind (rFrom_ev hc hi hf) ?_;obtain⟨f,hfe,hft,_⟩:=hf;simp only[hfe,if_pos (show(0:Int)≤(f:Int)by omega),if_pos (show(f:Int)≤(i:Int)by omega),if_pos (show(i:Int)≤(c.length:Int)by omega),if_pos (show out2.length<1954687338268 by omega),Int.toNat_natCast];exact ih (i+1) _ hr (by simp;omega)
    simp only[if_neg h9,List.append_nil];exact ih (i+1) _ hr (by omega)
   by_cases h1:o.f0=1
   ·have h9:¬ o.f0=9:=(by omega);simp only[if_pos h1];by_cases hl:0<o.f1.length
    ·refine Ev.step (fun k=>by rw[legationref21_Tasks.j1]) ?_;simp only[decide_eq_true (show(o.f1.length:Int)>0 by omega),if_true,if_pos (show(i:Int)<(c.length:Int)by omega),if_pos (show(0:Int)≤(i:Int)by omega),e,if_pos (show out.length<1954687338268 by omega),if_pos (show o.f0=1∧0<o.f1.length from⟨h1,hl⟩)];have:=j2 (out++ [⟨i,o.f1, -2,false,[]⟩]) (by simp;omega);rw[if_neg h9,List.append_nil,List.append_assoc]at this;exact this
    refine Ev.step (fun k=>by rw[legationref21_Tasks.j1]) ?_;simp only[decide_eq_false (show ¬(o.f1.length:Int)>0 by omega),Bool.false_eq_true,if_false,if_neg (show ¬(o.f0=1∧0<o.f1.length)from fun h=>hl h.2),if_neg h9];have:=j2 out (by omega);rw[if_neg h9,List.append_nil]at this;exact this
   simp only[if_neg h1,if_neg (show ¬(o.f0=1∧0<o.f1.length)from fun h=>h1 h.1)];refine Ev.step (fun k=>by rw[legationref21_Tasks.j1]) ?_;simp only[Bool.false_eq_true,if_false];have:=j2 out (by omega);by_cases h9:o.f0=9
   ·rw[if_pos h9]at this ⊢;rw[List.append_assoc]at this;exact this
   rw[if_neg h9,List.append_nil]at this;rw[if_neg h9];exact this
/-! ### the same as itself -/
theorem sTexts_ev (x:List ByteArray) (hx:x.length≤9223372036854775807):Ev (fun k=>legationref03_SameTexts.f k x x) true:=by
 have: ∀ (r:List ByteArray) (i:Nat),x.drop i=r→Ev (fun k=>legationref03_SameTexts.l0 k x x (i:Int)) true:=by
  intro r;induction r with
  |nil=>
   intro i hd;have:=len_of_drop hd;refine Ev.step (fun k=>by rw[legationref03_SameTexts.l0]) ?_;simp only[if_neg (show ¬((i:Int)<(x.length:Int))by omega)];exact Ev.now _
  |cons c r ih=>
   intro i hd;obtain⟨hg,hi,hr,_⟩:=get_of_drop hd ByteArray.empty;refine Ev.step (fun k=>by rw[legationref03_SameTexts.l0]) ?_;simp only[if_pos (show(i:Int)<(x.length:Int)by omega),if_pos (show(0:Int)≤(i:Int)by omega),if_true,wrap_succ (show i<9223372036854775807 by omega)];exact ih (i+1) hr
 unfold legationref03_SameTexts.f;simp only[if_true];exact this x 0 rfl
theorem sTriples_ev (x:List S53) (hx:x.length≤9223372036854775807):Ev (fun k=>legationref03_Same.f k x x) true:=by
 have: ∀ (r:List S53) (i:Nat),x.drop i=r→Ev (fun k=>legationref03_Same.l0 k x x (i:Int)) true:=by
  intro r;induction r with
  |nil=>
   intro i hd;have:=len_of_drop hd;refine Ev.step (fun k=>by rw[legationref03_Same.l0]) ?_;simp only[if_neg (show ¬((i:Int)<(x.length:Int))by omega)];exact Ev.now _
  |cons c r ih=>
   intro i hd;obtain⟨hg,hi,hr,_⟩:=get_of_drop hd z53;refine Ev.step (fun k=>by rw[legationref03_Same.l0]) ?_;simp only[if_pos (show(i:Int)<(x.length:Int)by omega),if_pos (show(0:Int)≤(i:Int)by omega),beq_self_eq_true,Bool.not_true,Bool.or_false,Bool.false_eq_true,if_false,wrap_succ (show i<9223372036854775807 by omega)];exact ih (i+1) hr
 unfold legationref03_Same.f;simp only[if_true];exact this x 0 rfl
theorem sParts_ev (x:List S112) (hx:x.length≤9223372036854775807):Ev (fun k=>legationref06_Same.f k x x) true:=by
 have: ∀ (r:List S112) (i:Nat),x.drop i=r→Ev (fun k=>legationref06_Same.l0 k x x (i:Int)) true:=by
  intro r;induction r with
  |nil=>
   intro i hd;have:=len_of_drop hd;refine Ev.step (fun k=>by rw[legationref06_Same.l0]) ?_;simp only[if_neg (show ¬((i:Int)<(x.length:Int))by omega)];exact Ev.now _
  |cons c r ih=>
   intro i hd;obtain⟨hg,hi,hr,_⟩:=get_of_drop hd z112;refine Ev.step (fun k=>by rw[legationref06_Same.l0]) ?_;simp only[if_pos (show(i:Int)<(x.length:Int)by omega),if_pos (show(0:Int)≤(i:Int)by omega),beq_self_eq_true,Bool.not_true,Bool.or_false,Bool.false_eq_true,if_false,wrap_succ (show i<9223372036854775807 by omega)];exact ih (i+1) hr
 unfold legationref06_Same.f;simp only[if_true];exact this x 0 rfl
theorem sCells_ev (o:S45) (hr:o.f2.f1.length≤9223372036854775807) (i:Nat) (hi:i<o.f2.f1.length) (row:List S50) (hg:rd_L6 o.f2.f1 (i:Int)=row) (hl:row.length≤9223372036854775807)
 (hn:Ev (fun k=>legationref08_SameOp.l0 k ((i+1:Nat):Int) o.f0 o.f1 o.f2.f0 o.f2.f1 o.f3 o.f4 o.f5 o.f0 o.f1 o.f2.f0 o.f2.f1 o.f3 o.f4 o.f5) true): ∀ (r:List S50) (j:Nat),row.drop j=r→
 Ev (fun k=>legationref08_SameOp.l1 k (i:Int) (j:Int) o.f0 o.f1 o.f2.f0 o.f2.f1 o.f3 o.f4 o.f5 o.f0 o.f1 o.f2.f0 o.f2.f1 o.f3 o.f4 o.f5) true:=by
 intro r;induction r with
 |nil=>
  intro j hd;have:=len_of_drop hd;refine Ev.step (fun k=>by rw[legationref08_SameOp.l1]) ?_;simp only[if_pos (show(0:Int)≤(i:Int)by omega),if_pos (show(i:Int)<(o.f2.f1.length:Int)by omega),hg,if_neg (show ¬((j:Int)<(row.length:Int))by omega),wrap_succ (show i<9223372036854775807 by omega)];exact hn
 |cons c r ih=>
  intro j hd;obtain⟨hg2,hj,hr2,_⟩:=get_of_drop hd z50;refine Ev.step (fun k=>by rw[legationref08_SameOp.l1]) ?_;simp only[if_pos (show(0:Int)≤(i:Int)by omega),if_pos (show(i:Int)<(o.f2.f1.length:Int)by omega),hg,if_pos (show(j:Int)<(row.length:Int)by omega),if_pos (show(0:Int)≤(j:Int)by omega),beq_self_eq_true,Bool.not_true,Bool.or_false,Bool.false_eq_true,if_false,wrap_succ (show j<9223372036854775807 by omega)];exact ih (j+1) hr2
theorem sRows_ev (o:S45) (hr:o.f2.f1.length≤9223372036854775807) (hrow: ∀ r ∈ o.f2.f1,r.length≤9223372036854775807): ∀ (r:List (List S50)) (i:Nat),o.f2.f1.drop i=r→
 Ev (fun k=>legationref08_SameOp.l0 k (i:Int) o.f0 o.f1 o.f2.f0 o.f2.f1 o.f3 o.f4 o.f5 o.f0 o.f1 o.f2.f0 o.f2.f1 o.f3 o.f4 o.f5) true:=by
 intro r;induction r with
 |nil=>
  intro i hd;have:=len_of_drop hd;refine Ev.step (fun k=>by rw[legationref08_SameOp.l0]) ?_;simp only[if_neg (show ¬((i:Int)<(o.f2.f1.length:Int))by omega)];exact Ev.now _
 |cons c r ih=>
  intro i hd;obtain⟨hg,hi,hr2,_⟩:=get_of_drop hd ([]:List S50);have e:rd_L6 o.f2.f1 (i:Int)=c:=hg;have hc:c ∈ o.f2.f1:=by
   have:c ∈ o.f2.f1.drop i:=(by rw[hd];exact List.mem_cons_self ..);exact List.mem_of_mem_drop this
  refine Ev.step (fun k=>by rw[legationref08_SameOp.l0]) ?_;simp only[if_pos (show(0:Int)≤(i:Int)by omega),if_pos (show(i:Int)<(o.f2.f1.length:Int)by omega),if_true];exact sCells_ev o hr i hi c e (hrow c hc) (ih (i+1) hr2) c 0 rfl
theorem sOp_ev {o:S45} (h:opOK o=true):Ev (fun k=>legationref08_SameOp.f k o.f0 o.f1 o.f2.f0 o.f2.f1 o.f3 o.f4 o.f5 o.f0 o.f1 o.f2.f0 o.f2.f1 o.f3 o.f4 o.f5) true:=by
 obtain⟨a,b,c,d⟩:=opOK_lens h;have hf:o.f3.length≤256:=by
  unfold opOK at h;simp only[Bool.and_eq_true]at h;have h1:=h.2.2.1;unfold formOK at h1;split at h1
  ·rw[beq_iff_eq]at h1;unfold fcheck at h1;split at h1
   ·cases h1
   omega
  rw[beq_iff_eq]at h1;omega
 unfold legationref08_SameOp.f;simp only[if_true,bne_self_eq_false,Bool.false_eq_true,if_false];refine Ev.bind (sParts_ev o.f3 (by omega)) ?_;simp only[if_true];refine Ev.bind (sTriples_ev o.f1 (by omega)) ?_;refine Ev.step (fun k=>by rw[legationref08_SameOp.j0]) ?_;simp only[Bool.not_true,Bool.false_eq_true,if_false];refine Ev.bind (sTexts_ev o.f2.f0 (by omega)) ?_;simp only[if_true,bne_self_eq_false];refine Ev.step (fun k=>by rw[legationref08_SameOp.j1]) ?_;simp only[Bool.false_eq_true,if_false];exact sRows_ev o (by omega) (fun r hr=>by have:=d r hr;omega) o.f2.f1 0 rfl
theorem sCode_ev (x:List S45) (hx:x.length≤128) (hk: ∀ o ∈ x,opOK o=true):Ev (fun k=>legationref08_SameCode.f k x x) true:=by
 have: ∀ (r:List S45) (i:Nat),x.drop i=r→Ev (fun k=>legationref08_SameCode.l0 k x x (i:Int)) true:=by
  intro r;induction r with
  |nil=>
   intro i hd;have:=len_of_drop hd;refine Ev.step (fun k=>by rw[legationref08_SameCode.l0]) ?_;simp only[if_neg (show ¬((i:Int)<(x.length:Int))by omega)];exact Ev.now _
  |cons c r ih=>
   intro i hd;obtain⟨hg,hi,hr,_⟩:=get_of_drop hd z45;have e:rd_T45 x (i:Int)=c:=hg;have hc:c ∈ x:=by
    have:c ∈ x.drop i:=(by rw[hd];exact List.mem_cons_self ..);exact List.mem_of_mem_drop this
   refine Ev.step (fun k=>by rw[legationref08_SameCode.l0]) ?_;simp only[if_pos (show(i:Int)<(x.length:Int)by omega),if_pos (show(0:Int)≤(i:Int)by omega),e,wrap_succ (show i<9223372036854775807 by omega)];refine Ev.bind (sOp_ev (hk c hc)) ?_;simp only[if_true];exact ih (i+1) hr
 unfold legationref08_SameCode.f;simp only[if_true];exact this x 0 rfl
theorem sTasks_ev (x:List S38) (hx:x.length≤128) (hk: ∀ e ∈ x,e.f1.length≤9223372036854775807∧e.f4.length≤128∧ ∀ o ∈ e.f4,opOK o=true):Ev (fun k=>legationref21_Same.f k x x) true:=by
 have: ∀ (r:List S38) (i:Nat),x.drop i=r→Ev (fun k=>legationref21_Same.l0 k x x (i:Int)) true:=by
  intro r;induction r with
  |nil=>
   intro i hd;have:=len_of_drop hd;refine Ev.step (fun k=>by rw[legationref21_Same.l0]) ?_;simp only[if_neg (show ¬((i:Int)<(x.length:Int))by omega)];exact Ev.now _
  |cons c r ih=>
   intro i hd;obtain⟨hg,hi,hr,_⟩:=get_of_drop hd z38;have e:rd_T38 x (i:Int)=c:=hg;have hc:c ∈ x:=by
    have:c ∈ x.drop i:=(by rw[hd];exact List.mem_cons_self ..);exact List.mem_of_mem_drop this
   obtain⟨h1,h2,h3⟩:=hk c hc;refine Ev.step (fun k=>by rw[legationref21_Same.l0]) ?_;simp only[if_pos (show(i:Int)<(x.length:Int)by omega),if_pos (show(0:Int)≤(i:Int)by omega),e,if_true,bne_self_eq_false,Bool.false_eq_true,if_false,wrap_succ (show i<9223372036854775807 by omega)];refine Ev.bind (sTriples_ev c.f1 h1) ?_;simp only[if_true];refine Ev.bind (sCode_ev c.f4 h2 h3) ?_;refine Ev.step (fun k=>by rw[legationref21_Same.j1]) ?_;simp only[Bool.not_true,Bool.false_eq_true,if_false,wrap_succ (show i<9223372036854775807 by omega)];exact ih (i+1) hr
 unfold legationref21_Same.f;simp only[if_true];exact this x 0 rfl
theorem tasksP_ok (c:List S45) (fs:List Int) (names:List ByteArray) (hk: ∀ o ∈ c,opOK o=true): ∀ (r:List S45) (i:Nat),(∀ o ∈ r,opOK o=true)→(tasksP c fs names i r).length≤r.length∧ ∀ e ∈ tasksP c fs names i r,e.f1.length≤32∧e.f4.length≤c.length∧ ∀ o ∈ e.f4,opOK o=true
 | [],i,_=>⟨by simp[tasksP],fun e he=>by cases he⟩
 |o::r,i,hr=>by
  obtain⟨h1,h2⟩:=tasksP_ok c fs names hk r (i+1) (fun o' ho'=>hr o' (List.mem_cons_of_mem _ ho'));have ho:=hr o (List.mem_cons_self ..);simp only[tasksP];split
  ·exact⟨by simp;omega,h2⟩
  split
  ·refine⟨by simp;omega,fun e he=>?_⟩;rcases List.mem_cons.1 he with rfl|he
   ·exact⟨(opOK_lens ho).1,Nat.zero_le _,fun o' ho'=>by cases ho'⟩
   exact h2 e he
  split
  ·refine⟨by simp;omega,fun e he=>?_⟩;rcases List.mem_cons.1 he with rfl|he
   ·exact⟨Nat.zero_le _,by simp;omega,fun o' ho'=>hk o' (List.mem_of_mem_take (List.mem_of_mem_drop ho'))⟩
   exact h2 e he
  exact⟨by simp;omega,h2⟩
/-! ### the law -/
theorem law_Tasks (c:List S45) (names:List ByteArray) (hb: ∀ o ∈ c,opB o):Ev (fun k=>legationlaw21_PlanTasks.f k c names) true:=by
 have aw:Ev (fun k=>(legationlaw21_awake.f k).bind fun t=>some t) true:=Ev.bind awake_ev (Ev.now _);have j0t:Ev (fun k=>legationlaw21_PlanTasks.j0 k c names true) true:=by
  refine Ev.step (fun k=>by rw[legationlaw21_PlanTasks.j0]) ?_;simp only[if_true];exact aw
 unfold legationlaw21_PlanTasks.f;refine Ev.bind (light_ev c) ?_;cases lightP c with
 |false=>simp only[Bool.false_eq_true,if_false];exact j0t
 |true=>
  simp only[if_true];by_cases hn:(names.length:Int)>20
  ·simp only[decide_eq_true hn];exact j0t
  simp only[decide_eq_false hn];(have hb1: ∀ o ∈ c,o.f1.length≤9223372036854775807:=fun o ho=>by have:=(hb o ho).1;omega);refine Ev.step (fun k=>by rw[legationlaw21_PlanTasks.j0]) ?_;simp only[Bool.false_eq_true,if_false];refine Ev.bind (tasks_ev c names hb) ?_;refine Ev.bind (rnms_ev names (by omega)) ?_;unfold tasksAt;by_cases h0:namesP names=0
  ·simp only[decide_eq_true h0,if_true,if_pos h0];refine Ev.bind (names_ev names) ?_;simp only[if_pos h0];refine Ev.bind (rcheck_ev c hb1) ?_;by_cases hr:(resultsP c).2=0
   ·simp only[if_pos hr,hr,bne_self_eq_false];refine Ev.step (fun k=>by rw[legationlaw21_PlanTasks.j1]) ?_;simp only[Bool.false_eq_true,if_false,if_true];have hres:resultsP c=((resultsP c).1,0):=Prod.ext rfl hr;obtain⟨_,hlen,hF,hk⟩:=resultsP_inv hres;have hkm: ∀ o ∈ c,opOK o=true:=fun o ho=>by
     obtain⟨t,ht,e⟩:=List.mem_iff_getElem.1 ho;have:=hk t ht;rw[List.getD_eq_getElem?_getD,List.getElem?_eq_getElem ht]at this;rw[← e];exact this
    have hT:=rtasks_loop hlen hF names (by omega) c 0 [] rfl (by simp);rw[List.nil_append]at hT;refine Ev.bind hT ?_;obtain⟨o1,o2⟩:=tasksP_ok c (resultsP c).1 names hkm c 0 hkm;refine Ev.bind (sTasks_ev _ (by omega) (fun e he=>?_)) ?_
    ·obtain⟨q1,q2,q3⟩:=o2 e he;exact⟨by omega,by omega,q3⟩
    simp only[if_true];exact aw
   simp only[if_neg hr,bne_self_eq_false];refine Ev.step (fun k=>by rw[legationlaw21_PlanTasks.j1]) ?_;simp only[Bool.false_eq_true,if_false,if_neg hr,List.length_nil,Int.natCast_zero,if_true];exact aw
  simp only[decide_eq_false h0,Bool.false_eq_true,if_false,if_neg h0];refine Ev.bind (names_ev names) ?_;have h2:namesP names=2:=by
   revert h0;unfold namesP;split
   ·intro _;rfl
   cases nmsOK [] (B names)<;>simp[e02]
  simp only[h2,if_true,List.length_nil,Int.natCast_zero];exact aw
end Go.Proofs.Ytcfoebkbahpnaaa.L
