import Derived.Test.YtcfoebkbahpnaaaDPc
/- The tasks of a code: none is among those that another one needs, and they have all of its patterns. -/
namespace Go.Proofs.Ytcfoebkbahpnaaa.L
open Go.RowKit Go.Lib Go.Proofs.Ytcfoebkbahpnaaa Go.Proofs.YtcfoebkbahpnaaaW.PrintWords Go.Proofs.YtcfoebkbahpnaaaW.PrintLast
set_option linter.unusedVariables false
set_option linter.unusedSimpArgs false

/-! ### the reference's place where parts begin -/
theorem dep_bd (c:List S45): ∀ j, -((2*j:Nat):Int)≤dep c j∧dep c j≤((2*j:Nat):Int)
 |0=>by rw[dep_zero];omega
 |j+1=>by
  have ih:=dep_bd c j;rcases Nat.lt_or_ge j c.length with h|h
  ·have hd:=List.drop_eq_getElem_cons h;have:=dep_succ hd;have:=opNeeds_le c[j].f0;omega
  have:dep c (j+1)=dep c j:=(by unfold dep;rw[List.take_of_length_le (by omega),List.take_of_length_le h]);omega
theorem rFrom_loop (c:List S45) (hc:c.length≤128) (f t:Nat) (ht:t<c.length) (hj: ∀ j,f<j→j≤t→dep c f+1≤dep c j): ∀ (d j:Nat),j=f+d→j≤t→
 Ev (fun k=>legationref07_From.l0 k c (dep c (j+1) - dep c f) (j:Int)) (f:Int):=by
 intro d;induction d with
 |zero=>
  intro j hjd hjt;have hjf:j=f:=(by omega);subst hjf;have hd:=List.drop_eq_getElem_cons (show j<c.length by omega);obtain⟨hg,_,_,_⟩:=get_of_drop hd z45;have e:rd_T45 c (j:Int)=c[j]:=hg;have hds:=dep_succ hd;have hle:=opNeeds_le c[j].f0;refine Ev.step (fun k=>by rw[legationref07_From.l0]) ?_;simp only[if_pos (show(j:Int)≥0 by omega),if_pos (show(0:Int)≤(j:Int)by omega),if_pos (show(j:Int)<(c.length:Int)by omega),e];refine Ev.bind (rneeds_ev _ _ _ _ _ _ _) ?_;simp only[show wrap64 (wrap64 (dep c (j+1) - dep c j+opNeeds c[j].f0) - 1)=0 by unfold wrap64;omega,if_true];exact Ev.now _
 |succ d ih=>
  intro j hjd hjt;have hd:=List.drop_eq_getElem_cons (show j<c.length by omega);obtain⟨hg,_,_,_⟩:=get_of_drop hd z45;have e:rd_T45 c (j:Int)=c[j]:=hg;have hds:=dep_succ hd;have hle:=opNeeds_le c[j].f0;have b1:=dep_bd c j;have b2:=dep_bd c f;have b3:=dep_bd c (j+1);have h1:=hj j (by omega) hjt;refine Ev.step (fun k=>by rw[legationref07_From.l0]) ?_;simp only[if_pos (show(j:Int)≥0 by omega),if_pos (show(0:Int)≤(j:Int)by omega),if_pos (show(j:Int)<(c.length:Int)by omega),e];refine Ev.bind (rneeds_ev _ _ _ _ _ _ _) ?_;have hw:wrap64 (wrap64 (dep c (j+1) - dep c f+opNeeds c[j].f0) - 1)=dep c j - dep c f:=(by unfold wrap64;omega);simp only[hw,if_neg (show ¬ dep c j - dep c f=0 by omega)];obtain⟨i,rfl⟩: ∃ i,j=i+1:=⟨j - 1,by omega⟩;rw[show wrap64 (((i+1:Nat):Int) - 1)=(i:Int)by unfold wrap64;omega];exact ih i (by omega) (by omega)
theorem rFrom_ev {c:List S45} (hc:c.length≤128) {t:Nat} (ht:t<c.length) {F:Int} (h:FromAt c t F):Ev (fun k=>legationref07_From.f k c (t:Int)) F:=by
 obtain⟨f,rfl,hft,hd,hj,_⟩:=h;unfold legationref07_From.f;have:=rFrom_loop c hc f t ht hj (t - f) t (by omega) (Nat.le_refl _);rw[show dep c (t+1) - dep c f=1 by omega]at this;exact this
/-! ### the tasks -/
def tasksP (c : List S45) (fs : List Int) (names : List ByteArray) : Nat → List S45 → List S38
  | _, [] => []
  | i, o :: r =>
    if taskInn c fs c.length i = true then tasksP c fs names (i + 1) r
    else if o.f0 = 1 ∧ 0 < o.f1.length then ⟨i, o.f1, -2, false, []⟩ :: tasksP c fs names (i + 1) r
    else if o.f0 = 9 then ⟨i, [], idxOf o.f4.data.toList (B names) 0, o.f5, (c.take i).drop (fs.getD i 0).toNat⟩ :: tasksP c fs names (i + 1) r
    else tasksP c fs names (i + 1) r
theorem tasksGo_ev (c:List S45) (fs:List Int) (names:List ByteArray) (hn:names.length≤9223372036854775807): ∀ (r:List S45) (i:Nat) (out:List S38),
 Ev (fun k=>tasksGo k c fs names i r out) (out++tasksP c fs names i r)
 | [],i,out=>by simp only[tasksGo,tasksP,List.append_nil];exact Ev.now _
 |o::r,i,out=>by
  simp only[tasksGo,tasksP];by_cases h1:taskInn c fs c.length i=true
  ·simp only[if_pos h1];exact tasksGo_ev c fs names hn r (i+1) out
  simp only[if_neg h1];by_cases h2:o.f0=1∧0<o.f1.length
  ·simp only[if_pos h2];have:=tasksGo_ev c fs names hn r (i+1) (out++ [⟨i,o.f1, -2,false,[]⟩]);rw[List.append_assoc]at this;exact this
  simp only[if_neg h2];by_cases h9:o.f0=9
  ·simp only[if_pos h9];refine Ev.bind (index_loop names hn o.f4 names 0 rfl) ?_;have:=tasksGo_ev c fs names hn r (i+1) (out++ [⟨i,[],idxOf o.f4.data.toList (B names) 0,o.f5,(c.take i).drop (fs.getD i 0).toNat⟩]);rw[List.append_assoc]at this;exact this
  simp only[if_neg h9];exact tasksGo_ev c fs names hn r (i+1) out
/-! ### how many patterns -/
def cnt (l : List S45) : Nat := (l.map fun o => o.f1.length).sum
theorem inn_iff (c:List S45) (fs:List Int) (j:Nat):taskInn c fs c.length (j:Int)=true ↔ ∃ s,s<c.length∧isSv c s∧fs.getD s 0≤(j:Int)∧j<s:=by
 unfold taskInn isSv;simp only[List.any_eq_true,List.mem_range,Bool.and_eq_true,decide_eq_true_eq,beq_iff_eq];constructor
 ·rintro⟨s,h1,⟨h3,h4⟩,h5⟩;exact⟨s,h1,h3,h4,by omega⟩
 rintro⟨s,h1,h3,h4,h5⟩;exact⟨s,h1,⟨h3,h4⟩,by omega⟩
end Go.Proofs.Ytcfoebkbahpnaaa.L

/- What plan.Tasks comes to; the program answers; the law. -/
namespace Go.Proofs.Ytcfoebkbahpnaaa.L
open Go.RowKit Go.Lib Go.Proofs.Ytcfoebkbahpnaaa Go.Proofs.YtcfoebkbahpnaaaW.PrintWords Go.Proofs.YtcfoebkbahpnaaaW.PrintLast
set_option linter.unusedVariables false
set_option linter.unusedSimpArgs false

def lightO (o : S45) : Bool := decide (o.f1.length ≤ 5) && decide (o.f2.f1.length ≤ 8) && decide (o.f3.length ≤ 30)
def lightP (c : List S45) : Bool := if c.length > 14 then decide (c.length > 128) else c.all lightO
theorem light_loop (c:List S45) (hc:c.length≤14): ∀ (r:List S45) (i:Nat),c.drop i=r→Ev (fun k=>legationref14_Light.l0 k c (i:Int)) (r.all lightO):=by
 intro r;induction r with
 |nil=>
  intro i hd;have:=len_of_drop hd;refine Ev.step (fun k=>by rw[legationref14_Light.l0]) ?_;simp only[if_neg (show ¬((i:Int)<(c.length:Int))by omega)];exact Ev.now _
 |cons o r ih=>
  intro i hd;obtain⟨hg,hi,hr,_⟩:=get_of_drop hd z45;have e:rd_T45 c (i:Int)=o:=hg;refine Ev.step (fun k=>by rw[legationref14_Light.l0]) ?_;simp only[if_pos (show(i:Int)<(c.length:Int)by omega),if_pos (show(0:Int)≤(i:Int)by omega),e,wrap_succ (show i<9223372036854775807 by omega),List.all_cons,lightO];by_cases h1:o.f1.length≤5
  ·by_cases h2:o.f2.f1.length≤8
   ·by_cases h3:o.f3.length≤30
    ·simp only[if_neg (show ¬((o.f1.length:Int)>5)by omega),if_neg (show ¬((o.f2.f1.length:Int)>8)by omega),if_neg (show ¬((o.f3.length:Int)>30)by omega),decide_eq_true h1,decide_eq_true h2,decide_eq_true h3,Bool.true_and];exact ih (i+1) hr
    simp only[if_neg (show ¬((o.f1.length:Int)>5)by omega),if_neg (show ¬((o.f2.f1.length:Int)>8)by omega),if_pos (show((o.f3.length:Int)>30)by omega),decide_eq_false h3,Bool.and_false,Bool.false_and];exact Ev.now _
   simp only[if_neg (show ¬((o.f1.length:Int)>5)by omega),if_pos (show((o.f2.f1.length:Int)>8)by omega),decide_eq_false h2,Bool.and_false,Bool.false_and];exact Ev.now _
  simp only[if_pos (show((o.f1.length:Int)>5)by omega),decide_eq_false h1,Bool.false_and];exact Ev.now _
theorem light_ev (c:List S45):Ev (fun k=>legationref14_Light.f k c) (lightP c):=by
 unfold legationref14_Light.f lightP;by_cases h:c.length>14
 ·simp only[if_pos (show(c.length:Int)>14 by omega),if_pos h,show decide ((c.length:Int)>128)=decide (c.length>128)by rw[decide_eq_decide];omega];exact Ev.now _
 simp only[if_neg (show ¬(c.length:Int)>14 by omega),if_neg h];exact light_loop c (by omega) c 0 rfl
def nmsOK : List (List UInt8) → List (List UInt8) → Bool
  | _, [] => true
  | p, v :: r => okIri v && !p.contains v && nmsOK (p ++ [v]) r
def namesP (names : List ByteArray) : Int := if names.length > 8 then 2 else e02 (nmsOK [] (B names))
theorem okTm_iri (s:ByteArray):okTm (TT 1 s ⟨#[]⟩ ⟨#[]⟩)=okIri s.data.toList:=by
 unfold okTm TT;simp
theorem names2_loop (x:List ByteArray) (hx:x.length≤8): ∀ (r:List ByteArray) (i:Nat),x.drop i=r→
 Ev (fun k=>plan_Names.l0 k x x (x.length:Int) (i:Int)) (e02 (nmsOK (B (x.take i)) (B r))):=by
 intro r;induction r with
 |nil=>
  intro i hd;have:=len_of_drop hd;refine Ev.step (fun k=>by rw[plan_Names.l0]) ?_;simp only[if_neg (show ¬((i:Int)<(x.length:Int))by omega)];rw[show B []= []from rfl,nmsOK];exact Ev.now _
 |cons c r ih=>
  intro i hd;obtain⟨hg,hi,hr,ht⟩:=get_of_drop hd ByteArray.empty;refine Ev.step (fun k=>by rw[plan_Names.l0]) ?_;have e:rdOf ByteArray.empty x (i:Int)=c:=hg;simp only[if_pos (show(i:Int)<(x.length:Int)by omega),if_pos (show(0:Int)≤(i:Int)by omega),if_pos (show(i:Int)≤(x.length:Int)by omega),e,wrap_succ (show i<9223372036854775807 by omega),Int.toNat_natCast];rw[show B (c::r)=c.data.toList::B r from rfl,nmsOK];refine Ev.bind (tcheck_ev 1 c ⟨#[]⟩ ⟨#[]⟩) ?_;rw[okTm_iri];cases okIri c.data.toList with
  |false=>simp only[e02_false,if_neg (show ¬((2:Int)=0)by decide),Bool.false_and];exact Ev.now _
  |true=>
   simp only[e02_true,if_true,Bool.true_and];refine Ev.bind (contains_ev (x.take i) (by rw[List.length_take];omega) c) ?_;cases (B (x.take i)).contains c.data.toList with
   |true=>simp only[if_true,Bool.not_true,Bool.false_and];exact Ev.now _
   |false=>
    simp only[Bool.false_eq_true,if_false,Bool.not_false,Bool.true_and];have h:=ih (i+1) hr;rw[ht]at h;rw[show B (x.take i)++ [c.data.toList]=B (x.take i++ [c])by simp[B]];exact h
theorem names_ev (names:List ByteArray):Ev (fun k=>plan_Names.f k names) (namesP names):=by
 unfold plan_Names.f namesP;by_cases h:names.length>8
 ·simp only[if_pos (show(names.length:Int)>8 by omega),if_pos h];exact Ev.now _
 simp only[if_neg (show ¬(names.length:Int)>8 by omega),if_neg h];exact names2_loop names (by omega) names 0 rfl
def tasksAt (c : List S45) (names : List ByteArray) : List S38 × Int :=
  if namesP names = 0 then (if (resultsP c).2 = 0 then (tasksP c (resultsP c).1 names 0 c, 0) else ([], (resultsP c).2)) else ([], namesP names)
theorem tasks_ev (c:List S45) (names:List ByteArray) (hb: ∀ o ∈ c,opB o):Ev (fun k=>plan_Tasks.f k c names) (tasksAt c names):=by
 unfold plan_Tasks.f tasksAt;refine Ev.bind (names_ev names) ?_;by_cases h0:namesP names=0
 ·simp only[if_pos h0];refine Ev.bind (a:=(resultsP c).2) ?_ ?_
  ·unfold scope_Check.f;exact Ev.bind (results_ev c hb) (Ev.now _)
  by_cases h1:(resultsP c).2=0
  ·simp only[if_pos h1];refine Ev.bind (a:=tasksP c (resultsP c).1 names 0 c) ?_ (Ev.now _);unfold plan_tasks.f;refine Ev.bind (results_ev c hb) ?_;obtain⟨a,b,d,e⟩:=resultsP_inv (c:=c) (outs:=(resultsP c).1) (by rw[← h1]);have hn:names.length≤8:=by
    unfold namesP at h0;by_cases h:names.length>8
    ·rw[if_pos h]at h0;cases h0
    omega
   simp only[if_pos (show(resultsP c).2=0∧(resultsP c).1.length=c.length∧c.length≤128∧(∀ i,i<c.length→0≤(resultsP c).1.getD i 0∧(resultsP c).1.getD i 0≤i)∧(∀ o ∈ c,o.f1.length<4294967296)from⟨h1,a,b,fun i hi=>by
    obtain⟨f,hf,hfi,_⟩:=d i hi;rw[hf];omega,fun o ho=>by
    obtain⟨i,hi,rfl⟩:=List.getElem_of_mem ho;have:=e i hi;rw[List.getD_eq_getElem?_getD,List.getElem?_eq_getElem hi]at this;have:=(opOK_lens this).1;(show c[i].f1.length<_);exact Nat.lt_of_le_of_lt this (by decide)⟩)]
   exact tasksGo_ev c _ names (by omega) c 0 []
  simp only[if_neg h1];exact Ev.now _
 simp only[if_neg h0];exact Ev.now _
/-! ### the program answers -/
def aw_c : List S45 := [⟨1, [⟨⟨4, ⟨#[120]⟩, ⟨#[]⟩, ⟨#[]⟩⟩, ⟨1, ⟨#[97]⟩, ⟨#[]⟩, ⟨#[]⟩⟩, ⟨4, ⟨#[121]⟩, ⟨#[]⟩, ⟨#[]⟩⟩⟩], ⟨[], []⟩, [], ⟨#[]⟩, false⟩, ⟨1, [], ⟨[], []⟩, [], ⟨#[]⟩, false⟩, ⟨9, [], ⟨[], []⟩, [], ⟨#[101, 48]⟩, false⟩, ⟨3, [], ⟨[], []⟩, [], ⟨#[]⟩, false⟩]
theorem aw_names:namesP [⟨#[101,48]⟩]=0:=by decide+kernel
theorem aw_res:resultsP aw_c=([0,1,1,0],0):=by decide+kernel
theorem awake_ev:Ev (fun k=>legationlaw21_awake.f k) true:=by
 unfold legationlaw21_awake.f;simp only[legationlaw21_name.f,legationlaw21_iri.f,Option.bind_some];refine Ev.bind (tasks_ev aw_c [⟨#[101,48]⟩] (fun o ho=>?_)) ?_
 ·have:opB o:=by
   simp only[aw_c,List.mem_cons,List.not_mem_nil,or_false]at ho;rcases ho with rfl|rfl|rfl|rfl;all_goals exact⟨by decide,by decide,by decide,by simp[maxLen];try decide,by simp⟩
  exact this
 unfold tasksAt;rw[if_pos aw_names,aw_res];have j:Ev (fun k=>legationlaw21_awake.j0 k true) true:=Ev.step (fun k=>by rw[legationlaw21_awake.j0]) (Ev.now _);exact j
end Go.Proofs.Ytcfoebkbahpnaaa.L
