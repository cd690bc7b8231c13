/- What the printed functions of formula.Check, scope.Needs and scope.Right come to. -/
import Derived.Test.YtcfoebkbahpnaaaDCx
import Derived.Test.YtcfoebkbahpnaaaDTe
namespace Go.Proofs.Ytcfoebkbahpnaaa.L
open Go.RowKit Go.Lib Go.Proofs.Ytcfoebkbahpnaaa Go.Proofs.YtcfoebkbahpnaaaW.PrintWords Go.Proofs.YtcfoebkbahpnaaaW.PrintLast
set_option linter.unusedVariables false
set_option linter.unusedSimpArgs false

theorem get_of_drop {α:Type} {xs:List α} {i:Nat} {c:α} {r:List α} (h:xs.drop i=c::r) (d:α):xs.getD ((i:Int)).toNat d=c∧i<xs.length∧xs.drop (i+1)=r∧xs.take (i+1)=xs.take i++ [c]:=by
 have hi:i<xs.length:=by
  rcases Nat.lt_or_ge i xs.length with h'|h'
  ·exact h'
  rw[List.drop_eq_nil_of_le h']at h;cases h
 have h2:=List.drop_eq_getElem_cons hi;rw[h]at h2;injection h2 with h3 h4
 refine⟨?_,hi,h4.symm,?_⟩
 ·rw[Int.toNat_natCast,List.getD_eq_getElem?_getD,List.getElem?_eq_getElem hi,h3];rfl
 rw[List.take_add_one,List.getElem?_eq_getElem hi,h3];rfl
theorem len_of_drop {α:Type} {xs:List α} {i:Nat} (h:xs.drop i= []):xs.length≤i:=List.drop_eq_nil_iff.1 h
def B (l : List ByteArray) : List (List UInt8) := l.map (·.data.toList)
def idxOf (a : List UInt8) : List (List UInt8) → Nat → Int
  | [], _ => -1
  | h :: t, i => if a = h then (i : Int) else idxOf a t (i + 1)
theorem idxOf_ge (a:List UInt8): ∀ (l:List (List UInt8)) (i:Nat),decide (idxOf a l i≥0)=l.contains a
 | [],i=>by simp[idxOf]
 |h::t,i=>by
  unfold idxOf;by_cases e:a=h
  ·simp[e]
  rw[if_neg e,idxOf_ge a t (i+1),List.contains_cons,beq_eq_false_iff_ne.mpr e,Bool.false_or]
theorem index_loop (x:List ByteArray) (hx:x.length≤9223372036854775807) (a:ByteArray): ∀ (r:List ByteArray) (i:Nat),x.drop i=r→
 Ev (fun k=>slices_Index_string_string.l0 k x a (x.length:Int) (i:Int)) (idxOf a.data.toList (B r) i):=by
 intro r;induction r with
 |nil=>
  intro i hd;have:=len_of_drop hd;refine Ev.step (fun k=>by rw[slices_Index_string_string.l0]) ?_;simp only[if_neg (show ¬((i:Int)<(x.length:Int))by omega)];exact Ev.now _
 |cons c r ih=>
  intro i hd;obtain⟨hg,hi,hr,_⟩:=get_of_drop hd ByteArray.empty;refine Ev.step (fun k=>by rw[slices_Index_string_string.l0]) ?_;have e:rdOf ByteArray.empty x (i:Int)=c:=hg;simp only[if_pos (show(i:Int)<(x.length:Int)by omega),if_pos (show(0:Int)≤(i:Int)by omega),e,wrap_succ (show i<9223372036854775807 by omega),tl];rw[show B (c::r)=c.data.toList::B r from rfl,idxOf];by_cases h:a.data.toList=c.data.toList
  ·simp only[if_pos h];exact Ev.now _
  simp only[if_neg h];exact ih (i+1) hr
theorem contains_ev (x:List ByteArray) (hx:x.length≤9223372036854775807) (a:ByteArray):Ev (fun k=>slices_Contains_string_string.f k x a) ((B x).contains a.data.toList):=by
 unfold slices_Contains_string_string.f slices_Index_string_string.f;refine Ev.bind (index_loop x hx a x 0 rfl) ?_;rw[idxOf_ge];exact Ev.now _
/-! ### tables -/
def nmOK : List (List UInt8) → List (List UInt8) → Bool
  | _, [] => true
  | p, v :: r => okName v && !p.contains v && nmOK (p ++ [v]) r
theorem e02_false:e02 false=2:=rfl
theorem e02_true:e02 true=0:=rfl
theorem Ev.at {α:Type} {g:Nat→Option α} {r:α} (n:Nat) (h: ∀ k,g (k+n)=some r):Ev g r:=⟨n,fun m hm=>by
 obtain⟨j,rfl⟩: ∃ j,m=j+n:=⟨m - n,by omega⟩;exact h j⟩
/-! ### formulas -/
def fneeds (kd n : Int) : Int :=
  if 1 ≤ kd ∧ kd ≤ 3 then 0 else if kd = 4 ∨ kd = 5 ∨ (18 ≤ kd ∧ kd ≤ 23) then 1 else if (6 ≤ kd ∧ kd ≤ 17) ∨ kd = 24 then 2 else if kd = 25 then 3 else if kd = 26 ∧ 1 ≤ n ∧ n ≤ 16 then n else -1
theorem fneeds_le (kd n:Int): -1≤fneeds kd n∧fneeds kd n≤16:=by
 unfold fneeds;(repeat' split);all_goals omega
theorem fneeds_ev (a0 a1:Int) (a2 a3 a4 a5:ByteArray) (a6:Int):Ev (fun k=>formula_Needs.f k a0 a1 a2 a3 a4 a5 a6) (fneeds a0 a6):=by
 (refine Ev.at 3 fun k=>?_);unfold formula_Needs.f fneeds;by_cases h1:1≤a0
 ·rw[if_pos (show a0≥1 from h1)];simp only[formula_Needs.j0];by_cases h3:a0≤3
  ·simp only[decide_eq_true h3,if_true,if_pos (show 1≤a0∧a0≤3 from⟨h1,h3⟩)]
  simp only[decide_eq_false h3,Bool.false_eq_true,if_false,if_neg (show ¬(1≤a0∧a0≤3)from fun h=>h3 h.2)];by_cases h4:a0=4
  ·simp only[if_pos h4,formula_Needs.j1,if_true,if_pos (show a0=4∨a0=5∨(18≤a0∧a0≤23)from .inl h4)]
  by_cases h5:a0=5
  ·simp only[if_neg h4,if_pos h5,formula_Needs.j1,if_true,if_pos (show a0=4∨a0=5∨(18≤a0∧a0≤23)from .inr (.inl h5))]
  simp only[if_neg h4,if_neg h5];by_cases h18:18≤a0∧a0≤23
  ·simp only[if_pos (show a0≥18 from h18.1),decide_eq_true h18.2,formula_Needs.j1,if_true,if_pos (show a0=4∨a0=5∨(18≤a0∧a0≤23)from .inr (.inr h18))]
  rw[if_neg (show ¬(a0=4∨a0=5∨(18≤a0∧a0≤23))by omega)];have main:formula_Needs.j1 (k+2) false a0 a1 a2 a3 a4 a5 a6=some (if(6≤a0∧a0≤17)∨a0=24 then 2 else if a0=25 then 3 else if a0=26∧1≤a6∧a6≤16 then a6 else -1):=by
   simp only[formula_Needs.j1,Bool.false_eq_true,if_false,if_pos (show a0≥6 by omega)];by_cases h17:a0≤17
   ·simp only[if_pos h17,formula_Needs.j2,if_true,if_pos (show(6≤a0∧a0≤17)∨a0=24 by omega)]
   simp only[if_neg h17,formula_Needs.j2];by_cases h24:a0=24
   ·simp only[h24,beq_self_eq_true,if_true,or_true]
   simp only[beq_eq_false_iff_ne.mpr h24,Bool.false_eq_true,if_false,if_neg (show ¬((6≤a0∧a0≤17)∨a0=24)by omega)];by_cases h25:a0=25
   ·simp only[if_pos h25]
   simp only[if_neg h25];by_cases h26:a0=26
   ·by_cases g1:1≤a6
    ·by_cases g2:a6≤16
     ·simp only[if_pos h26,if_pos (show a6≥1 from g1),if_pos g2,if_pos (show a0=26∧1≤a6∧a6≤16 from⟨h26,g1,g2⟩)]
     simp only[if_pos h26,if_pos (show a6≥1 from g1),if_neg g2,if_neg (show ¬(a0=26∧1≤a6∧a6≤16)from fun h=>g2 h.2.2)]
    simp only[if_pos h26,if_neg (show ¬(a6≥1)from g1),if_neg (show ¬(a0=26∧1≤a6∧a6≤16)from fun h=>g1 h.2.1)]
   simp only[if_neg h26,if_neg (show ¬(a0=26∧1≤a6∧a6≤16)from fun h=>h26 h.1)]
  by_cases g18:a0≥18
  ·rw[if_pos g18,decide_eq_false (show ¬ a0≤23 by omega)];exact main
  rw[if_neg g18];exact main
 rw[if_neg (show ¬(a0≥1)from h1)];simp only[formula_Needs.j0,Bool.false_eq_true,if_false,formula_Needs.j1,formula_Needs.j2,if_neg (show ¬ a0=4 by omega),if_neg (show ¬ a0=5 by omega),if_neg (show ¬ a0≥18 by omega),if_neg (show ¬ a0≥6 by omega),beq_eq_false_iff_ne.mpr (show a0≠24 by omega),if_neg (show ¬ a0=25 by omega),if_neg (show ¬ a0=26 by omega)];rw[if_neg (by omega),if_neg (by omega),if_neg (by omega),if_neg (by omega)]
/-- is a term the empty one? -/
def tmZ (t : S50) : Bool := t.f0 == 0 && (t.f1.toList == [] && (t.f2.toList == [] && t.f3.toList == []))
def partOK (p : S112) : Bool :=
  if p.f0 = 1 then okTm (T p.f1) && (p.f1.f0 == 1 || p.f1.f0 == 2) && (p.f2.toList == [] && p.f3 == 0)
  else if p.f0 = 2 ∨ p.f0 = 3 then okName p.f2.data.toList && (tmZ p.f1 && p.f3 == 0)
  else if p.f0 = 26 then decide (0 ≤ fneeds 26 p.f3) && (tmZ p.f1 && p.f2.toList == [])
  else decide (0 ≤ fneeds p.f0 p.f3) && (tmZ p.f1 && (p.f2.toList == [] && p.f3 == 0))
theorem partOK_ev (p:S112):Ev (fun k=>formula_right.f k p.f0 p.f1.f0 p.f1.f1 p.f1.f2 p.f1.f3 p.f2 p.f3) (partOK p):=by
 have hn:=fneeds_ev p.f0 p.f1.f0 p.f1.f1 p.f1.f2 p.f1.f3 p.f2 p.f3;have e0:((⟨#[]⟩:ByteArray).toList==([]:List UInt8))=true:=(by rw[tl];rfl);have hj2: ∀ (z0 z1:Int) (z2 z3 z4 z5:ByteArray) (z6:Int),Ev (fun k=>formula_right.j2 k p.f0 p.f1.f0 p.f1.f1 p.f1.f2 p.f1.f3 p.f2 p.f3 z0 z1 z2 z3 z4 z5 z6)
  (decide (0≤fneeds p.f0 p.f3) && (z0==p.f0 && ((z1==0 && (z2.toList==([]:List UInt8) && (z3.toList==([]:List UInt8) && (z4.toList==([]:List UInt8))))) && (z5.toList==([]:List UInt8) && (z6==0))))):=by
  intro z0 z1 z2 z3 z4 z5 z6;refine Ev.step (fun k=>by rw[formula_right.j2]) ?_;refine Ev.bind hn ?_;by_cases hf:0≤fneeds p.f0 p.f3
  ·simp only[if_pos (show fneeds p.f0 p.f3≥0 from hf),decide_eq_true hf,Bool.true_and];exact Ev.now _
  simp only[if_neg (show ¬ fneeds p.f0 p.f3≥0 from hf),decide_eq_false hf,Bool.false_and];exact Ev.now _
 have hj0: ∀ b,Ev (fun k=>formula_right.j0 k b p.f0 p.f1.f0 p.f1.f1 p.f1.f2 p.f1.f3 p.f2 p.f3 p.f0 p.f1.f0 p.f1.f1 p.f1.f2 p.f1.f3 p.f2 p.f3) (!b && (decide (0≤fneeds p.f0 p.f3) && (p.f2.toList== [] && p.f3==0))):=by
  intro b;refine Ev.step (fun k=>by rw[formula_right.j0]) ?_;cases b with
  |true=>simp only[if_true,Bool.not_true,Bool.false_and];exact Ev.now _
  |false=>
   simp only[Bool.false_eq_true,if_false,Bool.not_false,Bool.true_and];have:=hj2 p.f0 0 ⟨#[]⟩ ⟨#[]⟩ ⟨#[]⟩ p.f2 p.f3;simpa only[e0,beq_self_eq_true,Bool.true_and]using this
 unfold formula_right.f partOK;by_cases h1:p.f0=1
 ·have hz:decide (0≤fneeds p.f0 p.f3)=true:=(by rw[h1];simp[fneeds]);simp only[if_pos h1];refine Ev.bind (tcheck_ev _ _ _ _) ?_;rw[show TT p.f1.f0 p.f1.f1 p.f1.f2 p.f1.f3=T p.f1 from rfl];cases okTm (T p.f1)with
  |false=>
   simp only[e02_false,if_neg (show ¬((2:Int)=0)by decide),Bool.false_and];exact hj0 true
  |true=>
   simp only[e02_true,if_true,Bool.true_and];by_cases t1:p.f1.f0=1
   ·have:=hj0 false;rw[hz,Bool.not_false,Bool.true_and,Bool.true_and]at this;simp only[if_pos t1,show(p.f1.f0==1)=true from beq_iff_eq.mpr t1,Bool.true_or,Bool.true_and];exact this
   have:=hj0 (p.f1.f0 !=2);rw[hz,Bool.true_and,show(!(p.f1.f0 !=2))=(p.f1.f0==2)by rw[bne,Bool.not_not]]at this;simp only[if_neg t1,beq_eq_false_iff_ne.mpr t1,Bool.false_or];exact this
 simp only[if_neg h1];have hj:(p.f0=2∨p.f0=3)→Ev (fun k=>formula_right.j1 k p.f0 p.f1.f0 p.f1.f1 p.f1.f2 p.f1.f3 p.f2 p.f3 p.f0 p.f1.f0 p.f1.f1 p.f1.f2 p.f1.f3 p.f2 p.f3) (okName p.f2.data.toList && (tmZ p.f1 && p.f3==0)):=by
  intro h;refine Ev.step (fun k=>by rw[formula_right.j1]) ?_;refine Ev.bind (isName_ev p.f2) ?_;cases okName p.f2.data.toList with
  |false=>simp only[Bool.false_eq_true,if_false,Bool.false_and];exact Ev.now _
  |true=>
   simp only[if_true,Bool.true_and];have:=hj2 p.f0 p.f1.f0 p.f1.f1 p.f1.f2 p.f1.f3 ⟨#[]⟩ p.f3;rw[show decide (0≤fneeds p.f0 p.f3)=true from decide_eq_true (by unfold fneeds;rw[if_pos (by omega)];decide)]at this;simp only[e0,beq_self_eq_true,Bool.true_and]at this;exact this
 by_cases h2:p.f0=2
 ·simp only[if_pos h2,if_pos (show p.f0=2∨p.f0=3 from .inl h2)];exact hj (.inl h2)
 by_cases h3:p.f0=3
 ·simp only[if_neg h2,if_pos h3,if_pos (show p.f0=2∨p.f0=3 from .inr h3)];exact hj (.inr h3)
 simp only[if_neg h2,if_neg h3,if_neg (show ¬(p.f0=2∨p.f0=3)by omega)];by_cases h26:p.f0=26
 ·have:=hj2 p.f0 p.f1.f0 p.f1.f1 p.f1.f2 p.f1.f3 p.f2 0;simp only[beq_self_eq_true,Bool.true_and,Bool.and_true]at this;simp only[if_pos h26];rw[show fneeds 26 p.f3=fneeds p.f0 p.f3 by rw[h26]];exact this
 have:=hj2 p.f0 p.f1.f0 p.f1.f1 p.f1.f2 p.f1.f3 p.f2 p.f3;simp only[beq_self_eq_true,Bool.true_and]at this;simp only[if_neg h26];exact this
def fchk : Int → List S112 → Int
  | n, [] => if n = 1 then 0 else 2
  | n, p :: r => if partOK p = true then (if fneeds p.f0 p.f3 > n then 2 else fchk (n + (1 - fneeds p.f0 p.f3)) r) else 2
def fcheck (l : List S112) : Int := if l.length > 256 then 3 else fchk 0 l
theorem fchk_loop (x:List S112) (hx:x.length≤256): ∀ (r:List S112) (i:Nat) (n:Int),x.drop i=r→0≤n→n≤2*i→
 Ev (fun k=>formula_Check.l0 k n x (x.length:Int) (i:Int)) (fchk n r):=by
 intro r;induction r with
 |nil=>
  intro i n hd h0 h1;have:=len_of_drop hd;refine Ev.step (fun k=>by rw[formula_Check.l0]) ?_;simp only[if_neg (show ¬((i:Int)<(x.length:Int))by omega),fchk];by_cases hn:n=1
  ·simp only[if_pos hn];exact Ev.now _
  simp only[if_neg hn];exact Ev.now _
 |cons c r ih=>
  intro i n hd h0 h1;obtain⟨hg,hi,hr,_⟩:=get_of_drop hd z112;refine Ev.step (fun k=>by rw[formula_Check.l0]) ?_;have e:rd_T112 x (i:Int)=c:=hg;simp only[if_pos (show(i:Int)<(x.length:Int)by omega),if_pos (show(0:Int)≤(i:Int)by omega),e,wrap_succ (show i<9223372036854775807 by omega),fchk];refine Ev.bind (partOK_ev c) ?_;cases partOK c with
  |false=>simp only[Bool.false_eq_true,if_false];exact Ev.now _
  |true=>
   simp only[if_true];have hn:=fneeds_ev c.f0 c.f1.f0 c.f1.f1 c.f1.f2 c.f1.f3 c.f2 c.f3;have hle:=fneeds_le c.f0 c.f3;refine Ev.bind hn ?_;by_cases hgt:fneeds c.f0 c.f3>n
   ·simp only[if_pos hgt];exact Ev.now _
   simp only[if_neg hgt];refine Ev.bind hn ?_;simp only[show wrap64 (n+wrap64 (1 - fneeds c.f0 c.f3))=n+(1 - fneeds c.f0 c.f3)by unfold wrap64;omega];exact ih (i+1) _ hr (by omega) (by omega)
theorem fcheck_ev (x:List S112):Ev (fun k=>formula_Check.f k x) (fcheck x):=by
 unfold formula_Check.f fcheck;by_cases h:x.length>256
 ·simp only[if_pos (show(x.length:Int)>256 by omega),if_pos h];exact Ev.now _
 simp only[if_neg (show ¬(x.length:Int)>256 by omega),if_neg h];exact fchk_loop x (by omega) x 0 0 rfl (by omega) (by omega)
/-! ### patterns, tables -/
def triOK (t : S53) : Bool := okTm (T t.f0) && okTm (T t.f1) && okTm (T t.f2)
def patOK (t : S53) : Bool := triOK t && (t.f0.f0 == 1 || t.f0.f0 == 4) && (t.f1.f0 == 1 || t.f1.f0 == 4) && !(t.f2.f0 == 0) && !(t.f2.f0 == 3)
theorem triOK_ev (t:S53):Ev (fun k=>triples_right.f k t.f0.f0 t.f0.f1 t.f0.f2 t.f0.f3 t.f1.f0 t.f1.f1 t.f1.f2 t.f1.f3 t.f2.f0 t.f2.f1 t.f2.f2 t.f2.f3) (triOK t):=by
 unfold triples_right.f triOK;refine Ev.bind (tcheck_ev _ _ _ _) ?_;rw[show TT t.f0.f0 t.f0.f1 t.f0.f2 t.f0.f3=T t.f0 from rfl];cases okTm (T t.f0)with
 |false=>simp only[e02_false,if_neg (show ¬((2:Int)=0)by decide),Bool.false_and];exact Ev.now _
 |true=>
  simp only[e02_true,if_true,Bool.true_and];refine Ev.bind (tcheck_ev _ _ _ _) ?_;rw[show TT t.f1.f0 t.f1.f1 t.f1.f2 t.f1.f3=T t.f1 from rfl];cases okTm (T t.f1)with
  |false=>simp only[e02_false,if_neg (show ¬((2:Int)=0)by decide),Bool.false_and];exact Ev.now _
  |true=>
   simp only[e02_true,if_true,Bool.true_and];refine Ev.bind (tcheck_ev _ _ _ _) ?_;rw[show TT t.f2.f0 t.f2.f1 t.f2.f2 t.f2.f3=T t.f2 from rfl,show decide (e02 (okTm (T t.f2))=0)=okTm (T t.f2)by cases okTm (T t.f2)<;>rfl];exact Ev.now _
theorem patOK_ev (t:S53):Ev (fun k=>triples_CheckPattern.f k t.f0.f0 t.f0.f1 t.f0.f2 t.f0.f3 t.f1.f0 t.f1.f1 t.f1.f2 t.f1.f3 t.f2.f0 t.f2.f1 t.f2.f2 t.f2.f3) (e02 (patOK t)):=by
 have j0: ∀ b,Ev (fun k=>triples_CheckPattern.j0 k b) (e02 (!b)):=by
  intro b;refine Ev.step (fun k=>by rw[triples_CheckPattern.j0]) ?_;cases b<;>exact Ev.now _
 unfold triples_CheckPattern.f patOK;refine Ev.bind (triOK_ev t) ?_;cases triOK t with
 |false=>simp only[Bool.false_eq_true,if_false,Bool.false_and];exact j0 true
 |true=>
  simp only[if_true,Bool.true_and];have last:Ev (fun k=>if t.f2.f0=0 then triples_CheckPattern.j0 k true else triples_CheckPattern.j0 k (t.f2.f0==3)) (e02 (!(t.f2.f0==0) && !(t.f2.f0==3))):=by
   by_cases a:t.f2.f0=0
   ·simp only[if_pos a,a,beq_self_eq_true,Bool.not_true,Bool.false_and];exact j0 true
   simp only[if_neg a,beq_eq_false_iff_ne.mpr a,Bool.not_false,Bool.true_and];exact j0 _
  have mid:Ev (fun k=>if t.f1.f0=1 then(if t.f2.f0=0 then triples_CheckPattern.j0 k true else triples_CheckPattern.j0 k (t.f2.f0==3))else if t.f1.f0=4 then(if t.f2.f0=0 then triples_CheckPattern.j0 k true else triples_CheckPattern.j0 k (t.f2.f0==3))else triples_CheckPattern.j0 k true) (e02 ((t.f1.f0==1||t.f1.f0==4) && (!(t.f2.f0==0) && !(t.f2.f0==3)))):=by
   by_cases a:t.f1.f0=1
   ·simp only[if_pos a,a,beq_self_eq_true,Bool.true_or,Bool.true_and];exact last
   by_cases b:t.f1.f0=4
   ·simp only[if_neg a,if_pos b,b,beq_self_eq_true,Bool.or_true,Bool.true_and];exact last
   simp only[if_neg a,if_neg b,beq_eq_false_iff_ne.mpr a,beq_eq_false_iff_ne.mpr b,Bool.or_false,Bool.false_and];exact j0 true
  by_cases a:t.f0.f0=1
  ·simp only[if_pos a,a,beq_self_eq_true,Bool.true_or,Bool.true_and,Bool.and_assoc];exact mid
  by_cases b:t.f0.f0=4
  ·simp only[if_neg a,if_pos b,b,beq_self_eq_true,Bool.or_true,Bool.true_and,Bool.and_assoc];exact mid
  simp only[if_neg a,if_neg b,beq_eq_false_iff_ne.mpr a,beq_eq_false_iff_ne.mpr b,Bool.or_false,Bool.false_and];exact j0 true
def basicOK (l : List S53) : Bool := l.all patOK && decide (l.length ≤ 32)
theorem basic_loop (x:List S53) (hx:x.length≤9223372036854775807): ∀ (r:List S53) (i:Nat),x.drop i=r→
 Ev (fun k=>scope_basic.l0 k x x (x.length:Int) (i:Int)) (r.all patOK && decide (x.length≤32)):=by
 intro r;induction r with
 |nil=>
  intro i hd;have:=len_of_drop hd;refine Ev.step (fun k=>by rw[scope_basic.l0]) ?_;simp only[if_neg (show ¬((i:Int)<(x.length:Int))by omega),List.all_nil,Bool.true_and];rw[show decide ((x.length:Int)≤32)=decide (x.length≤32)by rw[decide_eq_decide];omega];exact Ev.now _
 |cons c r ih=>
  intro i hd;obtain⟨hg,hi,hr,_⟩:=get_of_drop hd z53;refine Ev.step (fun k=>by rw[scope_basic.l0]) ?_;have e:rd_T53 x (i:Int)=c:=hg;simp only[if_pos (show(i:Int)<(x.length:Int)by omega),if_pos (show(0:Int)≤(i:Int)by omega),e,wrap_succ (show i<9223372036854775807 by omega),List.all_cons];refine Ev.bind (patOK_ev c) ?_;cases patOK c with
  |false=>simp only[e02_false,if_neg (show ¬((2:Int)=0)by decide),Bool.false_and];exact Ev.now _
  |true=>simp only[e02_true,if_true,Bool.true_and];exact ih (i+1) hr
theorem basic_ev (x:List S53) (hx:x.length≤9223372036854775807):Ev (fun k=>scope_basic.f k x) (basicOK x):=basic_loop x hx x 0 rfl
def cellV (t : S50) : Bool := okTm (T t) && !(t.f0 == 3) && !(t.f0 == 4)
def rowV (n : Nat) (row : List S50) : Bool := row.length == n && row.all cellV
def tabV (vars : List ByteArray) (rows : List (List S50)) : Bool := decide (vars.length ≤ 32) && decide (rows.length ≤ 64) && nmOK [] (B vars) && rows.all (rowV vars.length)
theorem scells_loop (vars:List ByteArray) (rows:List (List S50)) (i:Nat) (row:List S50) (hrow:row.length≤9223372036854775807) (hi:i<9223372036854775807) (v:Bool)
 (hn:Ev (fun k=>scope_table.l1 k rows (rows.length:Int) ((i+1:Nat):Int) vars rows) v): ∀ (r:List S50) (j:Nat),row.drop j=r→
 Ev (fun k=>scope_table.l2 k rows (rows.length:Int) (i:Int) row (row.length:Int) (j:Int) vars rows) (r.all cellV && v):=by
 intro r;induction r with
 |nil=>
  intro j hd;have:=len_of_drop hd;refine Ev.step (fun k=>by rw[scope_table.l2]) ?_;simp only[if_neg (show ¬((j:Int)<(row.length:Int))by omega),wrap_succ hi];exact hn
 |cons c r ih=>
  intro j hd;obtain⟨hg,hj,hr,_⟩:=get_of_drop hd z50;refine Ev.step (fun k=>by rw[scope_table.l2]) ?_;have e:rd_T50 row (j:Int)=c:=hg;simp only[if_pos (show(j:Int)<(row.length:Int)by omega),if_pos (show(0:Int)≤(j:Int)by omega),e,wrap_succ (show j<9223372036854775807 by omega)];rw[List.all_cons,cellV];refine Ev.bind (tcheck_ev c.f0 c.f1 c.f2 c.f3) ?_;rw[show TT c.f0 c.f1 c.f2 c.f3=T c from rfl];cases okTm (T c)with
  |false=>simp only[e02_false,if_neg (show ¬((2:Int)=0)by decide),Bool.false_and];exact Ev.now _
  |true=>
   simp only[e02_true,if_true,Bool.true_and];by_cases h3:c.f0=3
   ·simp only[if_pos h3,h3,beq_self_eq_true,Bool.not_true,Bool.false_and];exact Ev.now _
   by_cases h4:c.f0=4
   ·simp only[if_neg h3,if_pos h4,h4,beq_self_eq_true,Bool.not_true,Bool.and_false,Bool.false_and];exact Ev.now _
   simp only[if_neg h3,if_neg h4,beq_eq_false_iff_ne.mpr h3,beq_eq_false_iff_ne.mpr h4,Bool.not_false,Bool.true_and];exact ih (j+1) hr
theorem srows_loop (vars:List ByteArray) (hv:vars.length≤32) (rows:List (List S50)) (hrows:rows.length≤64): ∀ (r:List (List S50)) (i:Nat),rows.drop i=r→
 Ev (fun k=>scope_table.l1 k rows (rows.length:Int) (i:Int) vars rows) (r.all (rowV vars.length)):=by
 intro r;induction r with
 |nil=>
  intro i hd;have:=len_of_drop hd;refine Ev.step (fun k=>by rw[scope_table.l1]) ?_;simp only[if_neg (show ¬((i:Int)<(rows.length:Int))by omega)];exact Ev.now _
 |cons c r ih=>
  intro i hd;obtain⟨hg,hi,hr,_⟩:=get_of_drop hd ([]:List S50);refine Ev.step (fun k=>by rw[scope_table.l1]) ?_;have e:rd_L4 rows (i:Int)=c:=hg;simp only[if_pos (show(i:Int)<(rows.length:Int)by omega),if_pos (show(0:Int)≤(i:Int)by omega),e];rw[List.all_cons,rowV];by_cases hl:c.length=vars.length
  ·simp only[if_pos (show(c.length:Int)=(vars.length:Int)by omega),hl,beq_self_eq_true,Bool.true_and];have:=scells_loop vars rows i c (by omega) (by omega) _ (ih (i+1) hr) c 0 rfl;rw[hl]at this;exact this
  simp only[if_neg (show ¬((c.length:Int)=(vars.length:Int))by omega),beq_eq_false_iff_ne.mpr hl,Bool.false_and];exact Ev.now _
theorem snames_loop (vars:List ByteArray) (hv:vars.length≤32) (rows:List (List S50)) (hrows:rows.length≤64): ∀ (r:List ByteArray) (i:Nat),vars.drop i=r→
 Ev (fun k=>scope_table.l0 k vars (vars.length:Int) (i:Int) vars rows) (nmOK (B (vars.take i)) (B r) && rows.all (rowV vars.length)):=by
 intro r;induction r with
 |nil=>
  intro i hd;have:=len_of_drop hd;refine Ev.step (fun k=>by rw[scope_table.l0]) ?_;simp only[if_neg (show ¬((i:Int)<(vars.length:Int))by omega)];rw[show B []= []from rfl,nmOK,Bool.true_and];exact srows_loop vars hv rows hrows rows 0 rfl
 |cons c r ih=>
  intro i hd;obtain⟨hg,hi,hr,ht⟩:=get_of_drop hd ByteArray.empty;refine Ev.step (fun k=>by rw[scope_table.l0]) ?_;have e:rdOf ByteArray.empty vars (i:Int)=c:=hg;simp only[if_pos (show(i:Int)<(vars.length:Int)by omega),if_pos (show(0:Int)≤(i:Int)by omega),if_pos (show(i:Int)≤(vars.length:Int)by omega),e,wrap_succ (show i<9223372036854775807 by omega),Int.toNat_natCast];rw[show B (c::r)=c.data.toList::B r from rfl,nmOK];refine Ev.bind (isName_ev c) ?_;cases okName c.data.toList with
  |false=>simp only[Bool.false_eq_true,if_false,Bool.false_and];exact Ev.now _
  |true=>
   simp only[if_true,Bool.true_and];refine Ev.bind (contains_ev (vars.take i) (by rw[List.length_take];omega) c) ?_;cases (B (vars.take i)).contains c.data.toList with
   |true=>simp only[if_true,Bool.not_true,Bool.false_and];exact Ev.now _
   |false=>
    simp only[Bool.false_eq_true,if_false,Bool.not_false,Bool.true_and];have h:=ih (i+1) hr;rw[ht]at h;rw[show B (vars.take i)++ [c.data.toList]=B (vars.take i++ [c])by simp[B]];exact h
theorem tabV_ev (vars:List ByteArray) (rows:List (List S50)):Ev (fun k=>scope_table.f k vars rows) (tabV vars rows):=by
 unfold scope_table.f tabV;by_cases h1:vars.length≤32
 ·simp only[if_neg (show ¬((vars.length:Int)>32)by omega),decide_eq_true h1,Bool.true_and];refine Ev.step (fun k=>by rw[scope_table.j0]) ?_;by_cases h2:rows.length≤64
  ·simp only[decide_eq_false (show ¬((rows.length:Int)>64)by omega),Bool.false_eq_true,if_false,decide_eq_true h2,Bool.true_and];exact snames_loop vars h1 rows h2 vars 0 rfl
  simp only[decide_eq_true (show(rows.length:Int)>64 by omega),if_true,decide_eq_false h2,Bool.false_and];exact Ev.now _
 simp only[if_pos (show(vars.length:Int)>32 by omega),decide_eq_false h1,Bool.false_and];refine Ev.step (fun k=>by rw[scope_table.j0]) ?_;simp only[if_true];exact Ev.now _
end Go.Proofs.Ytcfoebkbahpnaaa.L
