/- What the references' functions of formulas, patterns, tables and operations come to: the same as the program's. -/
import Derived.Test.YtcfoebkbahpnaaaDTf
namespace Go.Proofs.Ytcfoebkbahpnaaa.L
open Go.RowKit Go.Lib Go.Proofs.Ytcfoebkbahpnaaa Go.Proofs.YtcfoebkbahpnaaaW.PrintWords Go.Proofs.YtcfoebkbahpnaaaW.PrintLast
set_option linter.unusedVariables false
set_option linter.unusedSimpArgs false

theorem in_loop (x:List ByteArray) (hx:x.length≤9223372036854775807) (a:ByteArray): ∀ (r:List ByteArray) (i:Nat),x.drop i=r→
 Ev (fun k=>legationref03_In.l0 k x a (i:Int)) ((B r).contains a.data.toList):=by
 intro r;induction r with
 |nil=>
  intro i hd;have:=len_of_drop hd;refine Ev.step (fun k=>by rw[legationref03_In.l0]) ?_;simp only[if_neg (show ¬((i:Int)<(x.length:Int))by omega)];exact Ev.now _
 |cons c r ih=>
  intro i hd;obtain⟨hg,hi,hr,_⟩:=get_of_drop hd ByteArray.empty;refine Ev.step (fun k=>by rw[legationref03_In.l0]) ?_;have e:rdOf ByteArray.empty x (i:Int)=c:=hg;simp only[if_pos (show(i:Int)<(x.length:Int)by omega),if_pos (show(0:Int)≤(i:Int)by omega),e,wrap_succ (show i<9223372036854775807 by omega),tl];rw[show B (c::r)=c.data.toList::B r from rfl,List.contains_cons];by_cases h:c.data.toList=a.data.toList
  ·simp only[if_pos h,h,beq_self_eq_true,Bool.true_or];exact Ev.now _
  simp only[if_neg h,beq_eq_false_iff_ne.mpr (Ne.symm h),Bool.false_or];exact ih (i+1) hr
theorem in_ev (x:List ByteArray) (hx:x.length≤9223372036854775807) (a:ByteArray):Ev (fun k=>legationref03_In.f k x a) ((B x).contains a.data.toList):=by
 unfold legationref03_In.f;exact in_loop x hx a x 0 rfl
/-! ### formulas -/
theorem rfneeds_ev (a0 a1 : Int) (a2 a3 a4 a5 : ByteArray) (a6 : Int) : Ev (fun k => legationref06_Needs.f k a0 a1 a2 a3 a4 a5 a6) (fneeds a0 a6) := by
  refine Ev.at 3 fun k => ?_
  unfold legationref06_Needs.f fneeds
  by_cases h : 1 ≤ a0 ∧ a0 ≤ 26
  · obtain h | h | h | h | h | h | h | h | h | h | h | h | h | h | h | h | h | h | h | h | h | h | h | h | h | h := (by omega : a0 = 1 ∨ a0 = 2 ∨ a0 = 3 ∨ a0 = 4 ∨ a0 = 5 ∨ a0 = 6 ∨ a0 = 7 ∨ a0 = 8 ∨ a0 = 9 ∨ a0 = 10 ∨ a0 = 11 ∨ a0 = 12 ∨ a0 = 13 ∨ a0 = 14 ∨ a0 = 15 ∨ a0 = 16 ∨ a0 = 17 ∨ a0 = 18 ∨ a0 = 19 ∨ a0 = 20 ∨ a0 = 21 ∨ a0 = 22 ∨ a0 = 23 ∨ a0 = 24 ∨ a0 = 25 ∨ a0 = 26)
    all_goals subst h
    all_goals first
      | rfl
      | (by_cases g1 : a6 ≥ 1
         · by_cases g2 : a6 ≤ 16
           · simp [legationref06_Needs.j0, legationref06_Needs.j1, legationref06_Needs.j2, g1, g2]
           simp [legationref06_Needs.j0, legationref06_Needs.j1, legationref06_Needs.j2, g1, g2]
         simp [legationref06_Needs.j0, legationref06_Needs.j1, legationref06_Needs.j2, g1])
  have n : ∀ m : Int, 1 ≤ m → m ≤ 26 → a0 ≠ m := fun m h1 h2 e => h (by omega)
  rw [if_neg (n 1 (by decide) (by decide)), if_neg (n 2 (by decide) (by decide)), if_neg (by omega : ¬ (1 ≤ a0 ∧ a0 ≤ 3)), if_neg (by omega), if_neg (by omega), if_neg (by omega), if_neg (by omega)]
  simp only [legationref06_Needs.j0, legationref06_Needs.j1, legationref06_Needs.j2, beq_eq_false_iff_ne.mpr (n 3 (by decide) (by decide)), beq_eq_false_iff_ne.mpr (n 23 (by decide) (by decide)), beq_eq_false_iff_ne.mpr (n 24 (by decide) (by decide)), Bool.false_eq_true, if_false,
    if_neg (n 4 (by decide) (by decide)), if_neg (n 5 (by decide) (by decide)), if_neg (n 18 (by decide) (by decide)), if_neg (n 19 (by decide) (by decide)), if_neg (n 20 (by decide) (by decide)), if_neg (n 21 (by decide) (by decide)), if_neg (n 22 (by decide) (by decide)),
    if_neg (n 6 (by decide) (by decide)), if_neg (n 7 (by decide) (by decide)), if_neg (n 8 (by decide) (by decide)), if_neg (n 9 (by decide) (by decide)), if_neg (n 10 (by decide) (by decide)), if_neg (n 11 (by decide) (by decide)), if_neg (n 12 (by decide) (by decide)), if_neg (n 13 (by decide) (by decide)), if_neg (n 14 (by decide) (by decide)), if_neg (n 15 (by decide) (by decide)), if_neg (n 16 (by decide) (by decide)), if_neg (n 17 (by decide) (by decide)), if_neg (n 25 (by decide) (by decide)), if_neg (n 26 (by decide) (by decide))]
theorem tmZ_neg (t:S50):(!(t.f0==0)||(!(t.f1.toList==([]:List UInt8))||(!(t.f2.toList==([]:List UInt8))||(!(t.f3.toList==([]:List UInt8))))))= !tmZ t:=by
 unfold tmZ;simp only[Bool.not_and]
def partJ (p : S112) : Bool :=
  if p.f0 = 1 then p.f2.toList == [] && (okTm (T p.f1) && (p.f1.f0 == 1 || p.f1.f0 == 2))
  else tmZ p.f1 && (if p.f0 = 2 ∨ p.f0 = 3 then okName p.f2.data.toList else p.f2.toList == [])
theorem partJ_ev (p:S112) (b:Bool):Ev (fun k=>legationref06_right.j0 k b p.f0 p.f1.f0 p.f1.f1 p.f1.f2 p.f1.f3 p.f2 p.f3) (!b && partJ p):=by
 refine Ev.step (fun k=>by rw[legationref06_right.j0]) ?_;cases b with
 |true=>simp only[if_true,Bool.not_true,Bool.false_and];exact Ev.now _
 |false=>
  simp only[Bool.false_eq_true,if_false,Bool.not_false,Bool.true_and];unfold partJ;by_cases h1:p.f0=1
  ·simp only[if_pos h1];by_cases hn:p.f2.toList= []
   ·simp only[if_pos hn,hn,beq_self_eq_true,Bool.true_and];refine Ev.bind (rright_ev _ _ _ _) ?_;rw[show TT p.f1.f0 p.f1.f1 p.f1.f2 p.f1.f3=T p.f1 from rfl];cases okTm (T p.f1)with
    |false=>simp only[Bool.false_eq_true,if_false,Bool.false_and];exact Ev.now _
    |true=>
     simp only[if_true,Bool.true_and];by_cases t1:p.f1.f0=1
     ·simp only[if_pos t1,t1,beq_self_eq_true,Bool.true_or];exact Ev.now _
     simp only[if_neg t1,beq_eq_false_iff_ne.mpr t1,Bool.false_or];exact Ev.now _
   simp only[if_neg hn,beq_eq_false_iff_ne.mpr hn,Bool.false_and];exact Ev.now _
  simp only[if_neg h1];rw[tmZ_neg];cases tmZ p.f1 with
  |false=>simp only[Bool.not_false,if_true,Bool.false_and];exact Ev.now _
  |true=>
   simp only[Bool.not_true,Bool.false_eq_true,if_false,Bool.true_and];by_cases h2:p.f0=2
   ·simp only[if_pos h2,if_pos (show p.f0=2∨p.f0=3 from .inl h2)];exact Ev.bind (rName_ev _) (Ev.now _)
   by_cases h3:p.f0=3
   ·simp only[if_neg h2,if_pos h3,if_pos (show p.f0=2∨p.f0=3 from .inr h3)];exact Ev.bind (rName_ev _) (Ev.now _)
   simp only[if_neg h2,if_neg h3,if_neg (show ¬(p.f0=2∨p.f0=3)by omega)];exact Ev.now _
theorem rpartOK_ev (p:S112):Ev (fun k=>legationref06_right.f k p.f0 p.f1.f0 p.f1.f1 p.f1.f2 p.f1.f3 p.f2 p.f3) (partOK p):=by
 unfold legationref06_right.f;refine Ev.bind (rfneeds_ev _ _ _ _ _ _ _) ?_;by_cases hf:fneeds p.f0 p.f3<0
 ·simp only[if_pos hf];have e:partOK p=(!true && partJ p):=by
   unfold partOK;(have h1:p.f0≠1:=fun e=>by rw[e]at hf;revert hf;simp[fneeds]);(have h2:¬(p.f0=2∨p.f0=3):=fun e=>by unfold fneeds at hf;rw[if_pos (by omega)]at hf;omega);rw[if_neg h1,if_neg h2];by_cases h26:p.f0=26
   ·rw[if_pos h26];rw[h26]at hf;rw[decide_eq_false (by omega)];rfl
   rw[if_neg h26,decide_eq_false (by omega)];rfl
  rw[e];exact partJ_ev p true
 simp only[if_neg hf];have hf0:0≤fneeds p.f0 p.f3:=(by omega);by_cases h26:p.f0=26
 ·simp only[if_pos h26];have e:partOK p=(!false && partJ p):=by
   unfold partOK partJ;rw[if_neg (by omega),if_neg (by omega),if_pos h26,if_neg (by omega),if_neg (by omega),← h26,decide_eq_true hf0];rfl
  rw[e];exact partJ_ev p false
 simp only[if_neg h26];have e:partOK p=(!(p.f3 !=0) && partJ p):=by
  unfold partOK partJ;rw[show(!(p.f3 !=0))=(p.f3==0)by rw[bne,Bool.not_not]];by_cases h1:p.f0=1
  ·rw[if_pos h1,if_pos h1];generalize (p.f3==0)=a;generalize (p.f2.toList==([]:List UInt8))=b;generalize (okTm (T p.f1))=c;generalize (p.f1.f0==1||p.f1.f0==2)=d;revert a b c d;decide
  rw[if_neg h1,if_neg h1];by_cases h2:p.f0=2∨p.f0=3
  ·rw[if_pos h2,if_pos h2];generalize (p.f3==0)=a;generalize okName p.f2.data.toList=b;generalize tmZ p.f1=c;revert a b c;decide
  rw[if_neg h2,if_neg h2,if_neg h26,decide_eq_true hf0];generalize (p.f3==0)=a;generalize (p.f2.toList==([]:List UInt8))=b;generalize tmZ p.f1=c;revert a b c;decide
 rw[e];exact partJ_ev p _
theorem rfchk_loop (x:List S112) (hx:x.length≤256): ∀ (r:List S112) (i:Nat) (n:Int),x.drop i=r→0≤n→n≤2*i→
 Ev (fun k=>legationref06_Check.l0 k x n (i:Int)) (fchk n r):=by
 intro r;induction r with
 |nil=>
  intro i n hd h0 h1;have:=len_of_drop hd;refine Ev.step (fun k=>by rw[legationref06_Check.l0]) ?_;simp only[if_neg (show ¬((i:Int)<(x.length:Int))by omega),fchk];by_cases hn:n=1
  ·simp only[if_pos hn];exact Ev.now _
  simp only[if_neg hn];exact Ev.now _
 |cons c r ih=>
  intro i n hd h0 h1;obtain⟨hg,hi,hr,_⟩:=get_of_drop hd z112;refine Ev.step (fun k=>by rw[legationref06_Check.l0]) ?_;have e:rd_T112 x (i:Int)=c:=hg;simp only[if_pos (show(i:Int)<(x.length:Int)by omega),if_pos (show(0:Int)≤(i:Int)by omega),e,wrap_succ (show i<9223372036854775807 by omega),fchk];refine Ev.bind (rpartOK_ev c) ?_;cases partOK c with
  |false=>simp only[Bool.false_eq_true,if_false];exact Ev.now _
  |true=>
   simp only[if_true];have hn:=rfneeds_ev c.f0 c.f1.f0 c.f1.f1 c.f1.f2 c.f1.f3 c.f2 c.f3;have hle:=fneeds_le c.f0 c.f3;refine Ev.bind hn ?_;by_cases hgt:fneeds c.f0 c.f3>n
   ·simp only[if_pos hgt];exact Ev.now _
   simp only[if_neg hgt];refine Ev.bind hn ?_;simp only[show wrap64 (wrap64 (n - fneeds c.f0 c.f3)+1)=n+(1 - fneeds c.f0 c.f3)by unfold wrap64;omega];exact ih (i+1) _ hr (by omega) (by omega)
theorem rfcheck_ev (x:List S112):Ev (fun k=>legationref06_Check.f k x) (fcheck x):=by
 unfold legationref06_Check.f fcheck;by_cases h:x.length>256
 ·simp only[if_pos (show(x.length:Int)>256 by omega),if_pos h];exact Ev.now _
 simp only[if_neg (show ¬(x.length:Int)>256 by omega),if_neg h];exact rfchk_loop x (by omega) x 0 0 rfl (by omega) (by omega)
/-! ### patterns, tables -/
theorem okTm_kinds {t:S50} (h:okTm (T t)=true):t.f0=0∨t.f0=1∨t.f0=2∨t.f0=3∨t.f0=4:=by
 unfold okTm T TT at h;by_cases h2:t.f0=2
 ·omega
 rw[if_neg h2]at h;simp only[Bool.and_eq_true]at h;have:=h.2;by_cases h0:t.f0=0
 ·omega
 by_cases h1:t.f0=1
 ·omega
 by_cases h3:t.f0=3∨t.f0=4
 ·omega
 rw[if_neg h0,if_neg h1,if_neg h3]at this;cases this
theorem rpatOK_ev (t:S53):Ev (fun k=>legationref03_RightPattern.f k t.f0.f0 t.f0.f1 t.f0.f2 t.f0.f3 t.f1.f0 t.f1.f1 t.f1.f2 t.f1.f3 t.f2.f0 t.f2.f1 t.f2.f2 t.f2.f3) (patOK t):=by
 have j0t:Ev (fun k=>legationref03_RightPattern.j0 k true t.f0.f0 t.f0.f1 t.f0.f2 t.f0.f3 t.f1.f0 t.f1.f1 t.f1.f2 t.f1.f3 t.f2.f0 t.f2.f1 t.f2.f2 t.f2.f3) false:=by
  refine Ev.step (fun k=>by rw[legationref03_RightPattern.j0]) ?_;simp only[if_true];exact Ev.now _
 unfold legationref03_RightPattern.f patOK triOK;refine Ev.bind (rright_ev _ _ _ _) ?_;rw[show TT t.f0.f0 t.f0.f1 t.f0.f2 t.f0.f3=T t.f0 from rfl];cases okTm (T t.f0)with
 |false=>simp only[Bool.false_eq_true,if_false,Bool.false_and];exact j0t
 |true=>
 simp only[if_true,Bool.true_and];refine Ev.bind (rright_ev _ _ _ _) ?_;rw[show TT t.f1.f0 t.f1.f1 t.f1.f2 t.f1.f3=T t.f1 from rfl];cases okTm (T t.f1)with
 |false=>simp only[Bool.false_eq_true,if_false,Bool.false_and];exact j0t
 |true=>
 simp only[if_true,Bool.true_and];refine Ev.bind (rright_ev _ _ _ _) ?_;rw[show TT t.f2.f0 t.f2.f1 t.f2.f2 t.f2.f3=T t.f2 from rfl];cases h2:okTm (T t.f2)with
 |false=>simp only[Bool.not_false,Bool.false_and];exact j0t
 |true=>
 simp only[Bool.not_true,Bool.true_and];refine Ev.step (fun k=>by rw[legationref03_RightPattern.j0]) ?_;simp only[Bool.false_eq_true,if_false];have last:Ev (fun _=>if t.f2.f0=1 then some true else if t.f2.f0=2 then some true else some (t.f2.f0==4)) (!(t.f2.f0==0) && !(t.f2.f0==3)):=by
  rcases okTm_kinds h2 with h|h|h|h|h<;>rw[h]<;>exact Ev.now _
 have mid:Ev (fun _=>if t.f1.f0=1 then(if t.f2.f0=1 then some true else if t.f2.f0=2 then some true else some (t.f2.f0==4))else if t.f1.f0=4 then(if t.f2.f0=1 then some true else if t.f2.f0=2 then some true else some (t.f2.f0==4))else some false) ((t.f1.f0==1||t.f1.f0==4) && (!(t.f2.f0==0) && !(t.f2.f0==3))):=by
  by_cases a:t.f1.f0=1
  ·simp only[if_pos a,a,beq_self_eq_true,Bool.true_or,Bool.true_and];exact last
  by_cases b:t.f1.f0=4
  ·simp only[if_neg a,if_pos b,b,beq_self_eq_true,Bool.or_true,Bool.true_and];exact last
  simp only[if_neg a,if_neg b,beq_eq_false_iff_ne.mpr a,beq_eq_false_iff_ne.mpr b,Bool.or_false,Bool.false_and];exact Ev.now _
 by_cases a:t.f0.f0=1
 ·simp only[if_pos a,a,beq_self_eq_true,Bool.true_or,Bool.true_and,Bool.and_assoc];exact mid
 by_cases b:t.f0.f0=4
 ·simp only[if_neg a,if_pos b,b,beq_self_eq_true,Bool.or_true,Bool.true_and,Bool.and_assoc];exact mid
 simp only[if_neg a,if_neg b,beq_eq_false_iff_ne.mpr a,beq_eq_false_iff_ne.mpr b,Bool.or_false,Bool.false_and];exact Ev.now _
theorem rbasic_loop (x:List S53) (hx:x.length≤9223372036854775807): ∀ (r:List S53) (i:Nat),x.drop i=r→
 Ev (fun k=>legationref07_patterns.l0 k x (i:Int)) (r.all patOK && decide (x.length≤32)):=by
 intro r;induction r with
 |nil=>
  intro i hd;have:=len_of_drop hd;refine Ev.step (fun k=>by rw[legationref07_patterns.l0]) ?_;simp only[if_neg (show ¬((i:Int)<(x.length:Int))by omega),List.all_nil,Bool.true_and];rw[show decide ((x.length:Int)≤32)=decide (x.length≤32)by rw[decide_eq_decide];omega];exact Ev.now _
 |cons c r ih=>
  intro i hd;obtain⟨hg,hi,hr,_⟩:=get_of_drop hd z53;refine Ev.step (fun k=>by rw[legationref07_patterns.l0]) ?_;have e:rd_T53 x (i:Int)=c:=hg;simp only[if_pos (show(i:Int)<(x.length:Int)by omega),if_pos (show(0:Int)≤(i:Int)by omega),e,wrap_succ (show i<9223372036854775807 by omega),List.all_cons];refine Ev.bind (rpatOK_ev c) ?_;cases patOK c with
  |false=>simp only[Bool.false_eq_true,if_false,Bool.false_and];exact Ev.now _
  |true=>simp only[if_true,Bool.true_and];exact ih (i+1) hr
theorem rbasic_ev (x:List S53) (hx:x.length≤9223372036854775807):Ev (fun k=>legationref07_patterns.f k x) (basicOK x):=rbasic_loop x hx x 0 rfl
theorem rcell_ev (t:S50):Ev (fun k=>legationref07_value.f k t.f0 t.f1 t.f2 t.f3) (cellV t):=by
 unfold legationref07_value.f cellV;refine Ev.bind (rright_ev _ _ _ _) ?_;rw[show TT t.f0 t.f1 t.f2 t.f3=T t from rfl];cases h:okTm (T t)with
 |false=>simp only[Bool.false_eq_true,if_false,Bool.false_and];exact Ev.now _
 |true=>
  simp only[if_true,Bool.true_and];rcases okTm_kinds h with h|h|h|h|h<;>rw[h]<;>exact Ev.now _
theorem rcells_loop (vars:List ByteArray) (rows:List (List S50)) (i:Nat) (row:List S50) (hg:rd_L4 rows (i:Int)=row) (hrow:row.length≤9223372036854775807) (hil:i<rows.length) (hi:i<9223372036854775807) (v:Bool)
 (hn:Ev (fun k=>legationref07_RightTable.l1 k ((i+1:Nat):Int) vars rows) v): ∀ (r:List S50) (j:Nat),row.drop j=r→
 Ev (fun k=>legationref07_RightTable.l2 k (i:Int) (j:Int) vars rows) (r.all cellV && v):=by
 intro r;induction r with
 |nil=>
  intro j hd;have:=len_of_drop hd;refine Ev.step (fun k=>by rw[legationref07_RightTable.l2]) ?_;simp only[if_pos (show(0:Int)≤(i:Int)by omega),if_pos (show(i:Int)<(rows.length:Int)by omega),hg,if_neg (show ¬((j:Int)<(row.length:Int))by omega),wrap_succ hi];exact hn
 |cons c r ih=>
  intro j hd;obtain⟨hg2,hj,hr,_⟩:=get_of_drop hd z50;refine Ev.step (fun k=>by rw[legationref07_RightTable.l2]) ?_;have e:rd_T50 row (j:Int)=c:=hg2;simp only[if_pos (show(0:Int)≤(i:Int)by omega),if_pos (show(i:Int)<(rows.length:Int)by omega),hg,if_pos (show(j:Int)<(row.length:Int)by omega),if_pos (show(0:Int)≤(j:Int)by omega),e,wrap_succ (show j<9223372036854775807 by omega)];rw[List.all_cons];refine Ev.bind (rcell_ev c) ?_;cases cellV c with
  |false=>simp only[Bool.false_eq_true,if_false,Bool.false_and];exact Ev.now _
  |true=>simp only[if_true,Bool.true_and];exact ih (j+1) hr
theorem rrows_loop (vars:List ByteArray) (hv:vars.length≤32) (rows:List (List S50)) (hrows:rows.length≤64): ∀ (r:List (List S50)) (i:Nat),rows.drop i=r→
 Ev (fun k=>legationref07_RightTable.l1 k (i:Int) vars rows) (r.all (rowV vars.length)):=by
 intro r;induction r with
 |nil=>
  intro i hd;have:=len_of_drop hd;refine Ev.step (fun k=>by rw[legationref07_RightTable.l1]) ?_;simp only[if_neg (show ¬((i:Int)<(rows.length:Int))by omega)];exact Ev.now _
 |cons c r ih=>
  intro i hd;obtain⟨hg,hi,hr,_⟩:=get_of_drop hd ([]:List S50);refine Ev.step (fun k=>by rw[legationref07_RightTable.l1]) ?_;have e:rd_L4 rows (i:Int)=c:=hg;simp only[if_pos (show(i:Int)<(rows.length:Int)by omega),if_pos (show(0:Int)≤(i:Int)by omega),e];rw[List.all_cons,rowV];by_cases hl:c.length=vars.length
  ·simp only[if_pos (show(c.length:Int)=(vars.length:Int)by omega),hl,beq_self_eq_true,Bool.true_and];exact rcells_loop vars rows i c e (by omega) hi (by omega) _ (ih (i+1) hr) c 0 rfl
  simp only[if_neg (show ¬((c.length:Int)=(vars.length:Int))by omega),beq_eq_false_iff_ne.mpr hl,Bool.false_and];exact Ev.now _
theorem rnames_loop (vars:List ByteArray) (hv:vars.length≤32) (rows:List (List S50)) (hrows:rows.length≤64): ∀ (r:List ByteArray) (i:Nat),vars.drop i=r→
 Ev (fun k=>legationref07_RightTable.l0 k (i:Int) vars rows) (nmOK (B (vars.take i)) (B r) && rows.all (rowV vars.length)):=by
 intro r;induction r with
 |nil=>
  intro i hd;have:=len_of_drop hd;refine Ev.step (fun k=>by rw[legationref07_RightTable.l0]) ?_;simp only[if_neg (show ¬((i:Int)<(vars.length:Int))by omega)];rw[show B []= []from rfl,nmOK,Bool.true_and];exact rrows_loop vars hv rows hrows rows 0 rfl
 |cons c r ih=>
  intro i hd;obtain⟨hg,hi,hr,ht⟩:=get_of_drop hd ByteArray.empty;refine Ev.step (fun k=>by rw[legationref07_RightTable.l0]) ?_;have e:rdOf ByteArray.empty vars (i:Int)=c:=hg;simp only[if_pos (show(i:Int)<(vars.length:Int)by omega),if_pos (show(0:Int)≤(i:Int)by omega),if_pos (show(i:Int)≤(vars.length:Int)by omega),e,wrap_succ (show i<9223372036854775807 by omega),Int.toNat_natCast];rw[show B (c::r)=c.data.toList::B r from rfl,nmOK];refine Ev.bind (rName_ev c) ?_;cases okName c.data.toList with
  |false=>simp only[Bool.false_eq_true,if_false,Bool.false_and];exact Ev.now _
  |true=>
   simp only[if_true,Bool.true_and];refine Ev.bind (in_ev (vars.take i) (by rw[List.length_take];omega) c) ?_;cases (B (vars.take i)).contains c.data.toList with
   |true=>simp only[if_true,Bool.not_true,Bool.false_and];exact Ev.now _
   |false=>
    simp only[Bool.false_eq_true,if_false,Bool.not_false,Bool.true_and];have h:=ih (i+1) hr;rw[ht]at h;rw[show B (vars.take i)++ [c.data.toList]=B (vars.take i++ [c])by simp[B]];exact h
theorem rtabV_ev (vars:List ByteArray) (rows:List (List S50)):Ev (fun k=>legationref07_RightTable.f k vars rows) (tabV vars rows):=by
 unfold legationref07_RightTable.f tabV;by_cases h1:vars.length≤32
 ·simp only[if_neg (show ¬((vars.length:Int)>32)by omega),decide_eq_true h1,Bool.true_and];refine Ev.step (fun k=>by rw[legationref07_RightTable.j0]) ?_;by_cases h2:rows.length≤64
  ·simp only[decide_eq_false (show ¬((rows.length:Int)>64)by omega),Bool.false_eq_true,if_false,decide_eq_true h2,Bool.true_and];exact rnames_loop vars h1 rows h2 vars 0 rfl
  simp only[decide_eq_true (show(rows.length:Int)>64 by omega),if_true,decide_eq_false h2,Bool.false_and];exact Ev.now _
 simp only[if_pos (show(vars.length:Int)>32 by omega),decide_eq_false h1,Bool.false_and];refine Ev.step (fun k=>by rw[legationref07_RightTable.j0]) ?_;simp only[if_true];exact Ev.now _
/-! ### operations -/
theorem Ev.ifb (c:Bool) {g:Nat→Option Bool} {v:Bool} (h:Ev g v):Ev (fun k=>if c=true then g k else some false) (c && v):=by
 cases c with
 |false=>simp only[Bool.false_eq_true,if_false,Bool.false_and];exact Ev.now _
 |true=>simp only[if_true,Bool.true_and];exact h
theorem Ev.ifnb (c:Bool) {g:Nat→Option Bool} {v:Bool} (h:Ev g v):Ev (fun k=>if c=true then some false else g k) (!c && v):=by
 cases c with
 |true=>simp only[if_true,Bool.not_true,Bool.false_and];exact Ev.now _
 |false=>simp only[Bool.false_eq_true,if_false,Bool.not_false,Bool.true_and];exact h
theorem Ev.ifp (l:List UInt8) {g:Nat→Option Bool} {v:Bool} (h:Ev g v):Ev (fun k=>if l= []then g k else some false) ((l== []) && v):=by
 by_cases e:l= []
 ·simp only[if_pos e,e,beq_self_eq_true,Bool.true_and];exact h
 simp only[if_neg e,beq_eq_false_iff_ne.mpr e,Bool.false_and];exact Ev.now _
def noTri (o : S45) : Bool := o.f1.length == 0
def noTab (o : S45) : Bool := o.f2.f0.length == 0 && o.f2.f1.length == 0
def noF (o : S45) : Bool := o.f3.length == 0
def okF (o : S45) : Bool := fcheck o.f3 == 0
def noN (o : S45) : Bool := o.f4.toList == []
theorem okF_noF (o:S45):(!noF o && okF o)=okF o:=by
 unfold noF okF;cases h:o.f3 with
 |nil=>rfl
 |cons a l=>rfl
def J2 (o : S45) (bb : Bool) : Bool :=
  if bb = true then noTri o && (noTab o && (noF o && (noN o && !o.f5)))
  else if o.f0 = 5 then noTri o && (noTab o && ((noF o || okF o) && (noN o && !o.f5)))
  else if o.f0 = 7 then noTri o && (noTab o && (okF o && (noN o && !o.f5)))
  else if o.f0 = 8 then noTri o && (noTab o && (okF o && (okName o.f4.data.toList && !o.f5)))
  else if o.f0 = 9 then noTri o && (noTab o && (noF o && okIri o.f4.data.toList))
  else false
theorem J2_ev (o:S45) (bb:Bool):Ev (fun k=>legationref07_Right.j2 k (!noF o) (okF o) (noTri o) (noTab o) o.f0 bb o.f0 o.f1 o.f2.f0 o.f2.f1 o.f3 o.f4 o.f5) (J2 o bb):=by
 refine Ev.step (fun k=>by rw[legationref07_Right.j2]) ?_;have tail:Ev (fun _=>if o.f4.toList=([]:List UInt8)then some (!o.f5)else some false) (noN o && !o.f5):=Ev.ifp _ (Ev.now _);unfold J2;cases bb with
 |true=>
  simp only[if_true];refine Ev.ifb _ (Ev.ifb _ ?_);have:=Ev.ifnb (!noF o) tail;rw[Bool.not_not]at this;exact this
 |false=>
  simp only[Bool.false_eq_true,if_false];by_cases h5:o.f0=5
  ·simp only[if_pos h5];refine Ev.ifb _ (Ev.ifb _ ?_);cases noF o with
   |true=>simp only[Bool.not_true,Bool.false_eq_true,if_false,Bool.true_or,Bool.true_and];exact tail
   |false=>simp only[Bool.not_false,if_true,Bool.false_or];exact Ev.ifb _ tail
  by_cases h7:o.f0=7
  ·simp only[if_neg h5,if_pos h7];exact Ev.ifb _ (Ev.ifb _ (Ev.ifb _ tail))
  by_cases h8:o.f0=8
  ·simp only[if_neg h5,if_neg h7,if_pos h8];refine Ev.ifb _ (Ev.ifb _ (Ev.ifb _ (Ev.bind (rName_ev _) (Ev.ifb _ (Ev.now _)))))
  by_cases h9:o.f0=9
  ·simp only[if_neg h5,if_neg h7,if_neg h8,if_pos h9];refine Ev.ifb _ (Ev.ifb _ ?_);have:=Ev.ifnb (!noF o) (Ev.bind (rIri_ev o.f4) (Ev.now (okIri o.f4.data.toList)));rw[Bool.not_not]at this;exact this
  simp only[if_neg h5,if_neg h7,if_neg h8,if_neg h9];exact Ev.now _
def J1 (o : S45) : Bool :=
  if o.f0 = 1 then basicOK o.f1 && (noTab o && (noF o && (noN o && !o.f5)))
  else if o.f0 = 2 then noTri o && (tabV o.f2.f0 o.f2.f1 && (noF o && (noN o && !o.f5)))
  else J2 o (o.f0 == 3 || o.f0 == 4 || o.f0 == 6)
theorem J1_ev (o:S45) (ht:o.f1.length≤9223372036854775807):Ev (fun k=>legationref07_Right.j1 k (!noF o) (okF o) (noTri o) (noTab o) o.f0 o.f1 o.f2.f0 o.f2.f1 o.f3 o.f4 o.f5) (J1 o):=by
 refine Ev.step (fun k=>by rw[legationref07_Right.j1]) ?_;have tail:Ev (fun _=>if o.f4.toList=([]:List UInt8)then some (!o.f5)else some false) (noN o && !o.f5):=Ev.ifp _ (Ev.now _);have tailF:=Ev.ifnb (!noF o) tail;rw[Bool.not_not]at tailF;unfold J1;by_cases h1:o.f0=1
 ·simp only[if_pos h1];exact Ev.bind (rbasic_ev _ ht) (Ev.ifb _ (Ev.ifb _ tailF))
 by_cases h2:o.f0=2
 ·simp only[if_neg h1,if_pos h2];exact Ev.ifb _ (Ev.bind (rtabV_ev _ _) (Ev.ifb _ tailF))
 by_cases h3:o.f0=3
 ·simp only[if_neg h1,if_neg h2,if_pos h3,show(o.f0==3)=true from beq_iff_eq.mpr h3,Bool.true_or];exact J2_ev o true
 by_cases h4:o.f0=4
 ·simp only[if_neg h1,if_neg h2,if_neg h3,if_pos h4,show(o.f0==4)=true from beq_iff_eq.mpr h4,Bool.true_or,Bool.or_true];exact J2_ev o true
 simp only[if_neg h1,if_neg h2,if_neg h3,if_neg h4,beq_eq_false_iff_ne.mpr h3,beq_eq_false_iff_ne.mpr h4,Bool.false_or];exact J2_ev o _
theorem J1_eq (o:S45):J1 o=opOK o:=by
 have ea:decide (0<o.f1.length)= !noTri o:=by unfold noTri;cases o.f1<;>rfl
 have eb:decide (0<o.f2.f0.length+o.f2.f1.length)= !noTab o:=by
  unfold noTab;cases o.f2.f0 with
  |nil=>cases o.f2.f1 with
   |nil=>rfl
   |cons _ _=>simp
  |cons _ _=>simp;omega
 have ef:decide (0<o.f3.length)= !noF o:=by unfold noF;cases o.f3<;>rfl
 have en:(o.f4.toList != [])= !noN o:=rfl;have eo:=okF_noF o;have e3:(o.f3.length==0)=noF o:=rfl;have e4:(fcheck o.f3==0)=okF o:=rfl;unfold J1 J2 opOK bareB silentB formF formOK lastOK;rw[ea,eb,ef,en,e3,e4,okTm_iri];revert eo;generalize noTri o=a;generalize noTab o=b;generalize noF o=f;generalize okF o=g;generalize noN o=n;generalize o.f5=s;generalize okName o.f4.data.toList=x;generalize okIri o.f4.data.toList=y;generalize basicOK o.f1=z;generalize tabV o.f2.f0 o.f2.f1=w;generalize o.f0=kd;by_cases h:1≤kd∧kd≤9
 ·obtain h|h|h|h|h|h|h|h|h:=(by omega:kd=1∨kd=2∨kd=3∨kd=4∨kd=5∨kd=6∨kd=7∨kd=8∨kd=9);all_goals subst h
  ·revert a b f g n s x y z w;decide+kernel
  ·revert a b f g n s x y z w;decide+kernel
  ·revert a b f g n s x y z w;decide+kernel
  ·revert a b f g n s x y z w;decide+kernel
  ·revert a b f g n s x y z w;decide+kernel
  ·revert a b f g n s x y z w;decide+kernel
  ·revert a b f g n s x y z w;decide+kernel
  ·revert a b f g n s x y z w;decide+kernel
  revert a b f g n s x y z w;decide+kernel
 intro _;have q:opNeeds kd= -1:=(by unfold opNeeds;rw[if_neg (by omega),if_neg (by omega),if_neg (by omega)]);rw[q,if_neg (by omega:¬ kd=1),if_neg (by omega:¬ kd=2),beq_eq_false_iff_ne.mpr (by omega:kd≠3),beq_eq_false_iff_ne.mpr (by omega:kd≠4),beq_eq_false_iff_ne.mpr (by omega:kd≠6),if_neg (by decide),if_neg (by omega:¬ kd=5),if_neg (by omega:¬ kd=7),if_neg (by omega:¬ kd=8),if_neg (by omega:¬ kd=9),if_neg (by omega:¬ kd=1),if_neg (by omega:¬ kd=2),if_neg (by omega:¬ kd=8),if_neg (by omega:¬ kd=9)];rw[if_neg (by omega:¬ kd=8),if_neg (by omega:¬ kd=9),show decide ((0:Int)≤ -1)=false from rfl,Bool.and_false,Bool.and_false,Bool.and_false]
theorem ropOK_ev (o:S45) (ht:o.f1.length≤9223372036854775807):Ev (fun k=>legationref07_Right.f k o.f0 o.f1 o.f2.f0 o.f2.f1 o.f3 o.f4 o.f5) (opOK o):=by
 rw[← J1_eq];have j0:Ev (fun k=>legationref07_Right.j0 k (!noF o) (okF o) o.f0 o.f1 o.f2.f0 o.f2.f1 o.f3 o.f4 o.f5) (J1 o):=by
  refine Ev.step (fun k=>by rw[legationref07_Right.j0]) ?_;have e:((o.f1.length:Int)==0)=noTri o:=(by unfold noTri;rw[Bool.eq_iff_iff];simp only[beq_iff_eq];omega);have e2:=J1_ev o ht;unfold noTab at e2;by_cases hv:o.f2.f0.length=0
  ·simp only[if_pos (show(o.f2.f0.length:Int)=0 by omega),e];rw[show(o.f2.f0.length==0)=true from beq_iff_eq.mpr hv,Bool.true_and]at e2;rw[show((o.f2.f1.length:Int)==0)=(o.f2.f1.length==0)by rw[Bool.eq_iff_iff];simp only[beq_iff_eq];omega];exact e2
  simp only[if_neg (show ¬(o.f2.f0.length:Int)=0 by omega),e];rw[show(o.f2.f0.length==0)=false from beq_eq_false_iff_ne.mpr hv,Bool.false_and]at e2;exact e2
 unfold legationref07_Right.f;have ef:decide ((o.f3.length:Int)>0)= !noF o:=by unfold noF;cases o.f3<;>simp
 rw[ef];by_cases h:(o.f3.length:Int)>0
 ·simp only[if_pos h];exact Ev.bind (rfcheck_ev _) j0
 simp only[if_neg h];have:okF o=false:=by
  have hn:o.f3= []:=List.eq_nil_of_length_eq_zero (by omega);unfold okF;rw[hn];rfl
 rw[this]at j0;exact j0
end Go.Proofs.Ytcfoebkbahpnaaa.L
