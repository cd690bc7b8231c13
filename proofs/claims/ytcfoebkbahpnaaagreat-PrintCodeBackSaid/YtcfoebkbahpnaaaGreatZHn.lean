import Derived.Test.YtcfoebkbahpnaaaGreatZLf
import Derived.Test.YtcfoebkbahpnaaaGreatZHc
/- What term.quoted, term.Text come to. -/
set_option linter.unusedVariables false
set_option linter.unusedSimpArgs false
namespace Go.Proofs.YtcfoebkbahpnaaaGreat.Ab
open Go Go.Proofs.YtcfoebkbahpnaaaGreat

theorem urow_app (a b:List UInt8):urow a++urow b=urow (a++b):=by simp[urow]
theorem urow_len (a:List UInt8):(urow a).length=a.length:=by simp[urow]
theorem urow_dis (a:List UInt8):(urow a).map (·.map DV.dis1)=urow a:=by simp[urow,DV.dis1]
theorem appU {a b:List UInt8} {K:RW→Option R} (h:a.length+b.length≤140737488355328):appC 1 (urow a) (urow b) K=K (urow (a++b)):=by
 rw[appC_ok (by rw[urow_len,urow_len];omega) (by rw[urow_len,urow_len];omega),urow_dis,urow_app]
theorem esc_cons (c:UInt8) (r:List UInt8):esc (c::r)=escB c++esc r:=by simp[esc]
theorem escB_len (c:UInt8):(escB c).length≤2:=by
 unfold escB;(repeat' split)<;>simp
theorem quoted_l (s:ByteArray) (hs:s.size<4611686018427387904) (k0:RW→Option R): ∀ (r:List UInt8) (i m:Nat) (a:List UInt8),s.data.toList.drop i=r→r.length<m→a.length+2*r.length≤140737488355328→
 term_quoted.l3 m s (urow a) (i:Int) k0=k0 (urow (a++esc r))
 |r,i,0,a,hd,hm,hl=>by omega
 | [],i,m+1,a,hd,hm,hl=>by
  have:=drop_size hd;rw[term_quoted.l3];simp only[bifd];rw[if_neg (by omega)];simp[esc]
 |c::r,i,m+1,a,hd,hm,hl=>by
  obtain⟨hb,his,hr⟩:=ch_drop hd;have hl':(c::r).length=r.length+1:=rfl;(have ih:=fun(b:List UInt8) (hb:b.length≤2)=>quoted_l s hs k0 r (i+1) m (a++b) hr (by omega) (by rw[List.length_append];omega));(have e1: ∀ K,appC 1 (urow a) [[U 92],[U (c.toNat:Int)]] K=K (urow (a++ [92,c])):=fun K=>appU (b:= [92,c]) (by simp;omega));(have e2: ∀ K,appC 1 (urow a) [[U 92],[U 110]] K=K (urow (a++ [92,110])):=fun K=>appU (b:= [92,110]) (by simp;omega));(have e3: ∀ K,appC 1 (urow a) [[U 92],[U 116]] K=K (urow (a++ [92,116])):=fun K=>appU (b:= [92,116]) (by simp;omega));(have e4: ∀ K,appC 1 (urow a) [[U (c.toNat:Int)]] K=K (urow (a++ [c])):=fun K=>appU (b:= [c]) (by simp;omega));rw[term_quoted.l3];simp only[bifn,bifd2,bifd,if_pos (show(i:Int)<(s.size:Int)by omega),if_pos (show(0:Int)≤(i:Int)∧(i:Int)<(s.size:Int)by omega),hb,wr_succ (show i<9223372036854775807 by omega),e1,e2,e3,e4];rw[esc_cons,← List.append_assoc];unfold escB;by_cases h1:c.toNat=34
  ·have:c=34:=UInt8.toNat_inj.1 h1;subst this;rw[if_pos (by decide),if_pos (by decide),if_pos (by decide)];exact ih [92,34] (by simp)
  by_cases h2:c.toNat=92
  ·have:c=92:=UInt8.toNat_inj.1 h2;subst this;rw[if_neg (by decide),if_pos (by decide),if_neg (by decide),if_pos (by decide)];exact ih [92,92] (by simp)
  rw[if_neg (by omega),if_neg (by omega),if_neg h1,if_neg h2];by_cases h3:c.toNat=10
  ·rw[if_pos (by omega),if_pos h3];exact ih [92,110] (by simp)
  rw[if_neg (by omega),if_neg h3];by_cases h4:c.toNat=9
  ·rw[if_pos (by omega),if_pos h4];exact ih [92,116] (by simp)
  rw[if_neg (by omega),if_neg h4];exact ih [c] (by simp)
theorem esc_len (l:List UInt8):(esc l).length≤2*l.length:=by
 induction l with
 |nil=>simp[esc]
 |cons c r ih=>rw[esc_cons,List.length_append,List.length_cons];have:=escB_len c;omega
theorem quoted_g (s:ByteArray) {n:Nat} (hn:Fuel n) (h1:s.size≤70000000000000) (h2:s.size<n) (K:ByteArray→Option R):term_quoted.g n s K=K (ofL (34::(esc s.data.toList++ [34]))):=by
 have hz:=size_toList s;have h:=quoted_l s (by omega) (fun l10=>appC 1 l10 [[U 34]] fun l11=>bytesC l11 fun s3=>K s3) s.data.toList 0 n [34] rfl (by omega) (by simp;omega);refine Eq.trans (show _=term_quoted.l3 n s (urow [34]) ((0:Nat):Int) _ from rfl) (h.trans ?_);have he:=esc_len s.data.toList;(show appC 1 (urow ([34]++esc s.data.toList)) (urow [34]) _=_);rw[appU (by simp;omega),bytesC_ok];rfl
theorem cat1 {a:List UInt8} {s:ByteArray} {K:ByteArray→Option R} (h:a.length+s.size≤9223372036854775807):catC (ofL a) s K=K (ofL (a++s.data.toList)):=by
 have:=catL (a:=a) (b:=s.data.toList) (K:=K) (by rw[size_toList];exact h);rwa[ofL_data]at this
theorem text_g (t:TermS) {n:Nat} (hn:Fuel n) (ht:t.lt n) (hx:t.f1.size≤70000000000000) (K:ByteArray→Int→Option R):
 term_Text.g n t.f0 t.f1 t.f2 t.f3 K=if okTm (T t)=true then K (ofL (ttext (T t))) 0 else K ⟨#[]⟩ 2:=by
 have h2:=hn.2;have hz:=ht.2.1;have hz3:=ht.2.2;unfold term_Text.g;rw[check_t t hn ht];(have ct: ∀ (l:List UInt8),(⟨l.toArray⟩:ByteArray)=ofL l:=fun l=>rfl);cases hok:okTm (T t)with
 |false=>rfl
 |true=>
  rw[if_pos rfl,if_pos rfl];simp only[bifn,bifd,strEq_nil];rw[if_pos trivial];have hq:=quoted_g t.f1 hn hx ht.1;have he:=esc_len t.f1.data.toList;rw[size_toList]at he;by_cases k1:t.f0=1
  ·rw[if_pos k1,show(⟨#[60]⟩:ByteArray)=ofL [60]from rfl,cat1 (by simp;omega),show(⟨#[62]⟩:ByteArray)=ofL [62]from rfl,catL (by simp[size_toList];omega)];unfold ttext;rw[if_pos (show(T t).k=1 from k1)];rfl
  by_cases k3:t.f0=3
  ·rw[if_neg k1,if_pos k3,show(⟨#[95,58]⟩:ByteArray)=ofL [95,58]from rfl,cat1 (by simp;omega)];unfold ttext;rw[if_neg (show ¬(T t).k=1 from k1),if_pos (show(T t).k=3 from k3)];rfl
  by_cases k4:t.f0=4
  ·rw[if_neg k1,if_neg k3,if_pos k4,show(⟨#[63]⟩:ByteArray)=ofL [63]from rfl,cat1 (by simp;omega)];unfold ttext;rw[if_neg (show ¬(T t).k=1 from k1),if_neg (show ¬(T t).k=3 from k3),if_pos (show(T t).k=4 from k4)];rfl
  by_cases k2:t.f0=2
  ·rw[if_neg k1,if_neg k3,if_neg k4,if_pos k2,hq];unfold ttext;rw[if_neg (show ¬(T t).k=1 from k1),if_neg (show ¬(T t).k=3 from k3),if_neg (show ¬(T t).k=4 from k4),if_pos (show(T t).k=2 from k2)];unfold tail2;(show(bif t.f2.data.toList.isEmpty then _ else _)=K (ofL (34::(esc t.f1.data.toList++34::((if t.f2.data.toList.isEmpty=true then []else _)++(if t.f3.data.toList.isEmpty=true then []else _))))) 0);rw[show(⟨#[94,94,60]⟩:ByteArray)=ofL [94,94,60]from rfl,show(⟨#[62]⟩:ByteArray)=ofL [62]from rfl,show(⟨#[64]⟩:ByteArray)=ofL [64]from rfl];cases t.f2.data.toList.isEmpty with
   |true=>
    cases t.f3.data.toList.isEmpty with
    |true=>simp
    |false=>
     rw[cond_true,cond_false,cat1 (by simp;omega),catL (by simp[size_toList];omega)];simp;rfl
   |false=>
    rw[cond_false,cat1 (by simp;omega),catL (by simp[size_toList];omega),catL (by simp[size_toList];omega)];cases t.f3.data.toList.isEmpty with
    |true=>simp;rfl
    |false=>
     rw[cond_false,cat1 (by simp;omega),catL (by simp[size_toList];omega)];simp;rfl
  rw[if_neg k1,if_neg k3,if_neg k4,if_neg k2];unfold ttext;rw[if_neg (show ¬(T t).k=1 from k1),if_neg (show ¬(T t).k=3 from k3),if_neg (show ¬(T t).k=4 from k4),if_neg (show ¬(T t).k=2 from k2)];rfl
end Go.Proofs.YtcfoebkbahpnaaaGreat.Ab

set_option linter.unusedVariables false
set_option linter.unusedSimpArgs false
namespace Go.Proofs.YtcfoebkbahpnaaaGreat.Hd
open Go.RowKit Go.Proofs.YtcfoebkbahpnaaaGreatW.PrintWords Go.Proofs.YtcfoebkbahpnaaaGreatW.PrintLast
open Ab (DV AV Dat OwnA OwnS Pres Fresh AR ORep FunOK Ent EnvOK Enters RowsR slR Who Ro RW)
/-! what is said of scope.Needs, scope.Right, slices.Contains, as calls with typed rows -/
theorem vc (k:Nat):EnvOK Ab.G.P (Ab.E k (Ab.Hs k) 22):=Ab.v22 k
theorem ve16 (k:Nat):Ab.E k (Ab.Hs k) 22 16=Ab.sp16 k (Ab.Hs k):=by kernel_rfl
theorem ve26 (k:Nat):Ab.E k (Ab.Hs k) 22 26=Ab.sp26 k (Ab.Hs k):=by kernel_rfl
theorem ve72 (k:Nat):Ab.E k (Ab.Hs k) 22 72=Ab.sp72 k (Ab.Hs k):=by kernel_rfl
theorem dvs2 {D:Nat→Nat→Prop} {w:World} {cs:List DV} {arr:Array Value} (h:DL D w cs arr.toList) (ho: ∀ y ∈ arr,y.oneCell'=true):Dat D w (.ag cs) (.agg arr):=
 .ag (by have:=h.len;simpa using this) ho fun i x y hx hy=>h.get i x y hx (by rw[Array.getElem?_toList];exact hy)
section
variable (k:Nat) (a0:Int) (A1:Option Addr) (c1:Nat) (l1:List S100) (A2:Option Addr) (c2:Nat) (l2:List ByteArray) (A3:Option Addr) (c3:Nat) (l3:List (List S46)) (A4:Option Addr) (c4:Nat) (l4:List S98) (a5:ByteArray) (a6:Bool)
theorem op_D0 {w:World} (hr1:Kd.C k100 w A1 l1.length l1) (hc1:l1.length≤c1) (hr2:Kd.C Kd.string w A2 l2.length l2) (hc2:l2.length≤c2) (hr3:Kd.C (Kd.slice 46 k46) w A3 l3.length l3) (hc3:l3.length≤c3) (hr4:Kd.C k98 w A4 l4.length l4) (hc4:l4.length≤c4):
 Dat (fun _ _=>True) w (.ag (Ab.eOp ⟨a0,l1,⟨l2,l3⟩,l4,a5,a6⟩)) (.agg #[.int .i64 a0,.slice A1 l1.length c1,.slice A2 l2.length c2,.slice A3 l3.length c3,.slice A4 l4.length c4,.string a5,.bool a6]):=
 dvs2 (.cons (.v rfl) (.cons (tris_D hc1 hr1) (.cons (strs_D hc2 hr2) (.cons (rows_D hc3 hr3) (.cons (parts_D hc4 hr4) (.cons (.v rfl) (.cons (.v rfl) .nil))))))) (by simp[Value.oneCell'])
theorem op_D {w:World} (hr1:Kd.C k100 w A1 l1.length l1) (hc1:l1.length≤c1) (hr2:Kd.C Kd.string w A2 l2.length l2) (hc2:l2.length≤c2) (hr3:Kd.C (Kd.slice 46 k46) w A3 l3.length l3) (hc3:l3.length≤c3) (hr4:Kd.C k98 w A4 l4.length l4) (hc4:l4.length≤c4):
 DL (fun _ _=>True) w [.ag (Ab.eOp ⟨a0,l1,⟨l2,l3⟩,l4,a5,a6⟩)] [.agg #[.int .i64 a0,.slice A1 l1.length c1,.slice A2 l2.length c2,.slice A3 l3.length c3,.slice A4 l4.length c4,.string a5,.bool a6]]:=
 .cons (op_D0 a0 A1 c1 l1 A2 c2 l2 A3 c3 l3 A4 c4 l4 a5 a6 hr1 hc1 hr2 hc2 hr3 hc3 hr4 hc4) .nil
def scope_Needs.f (k : Nat) (a0 : Int) (l1 : List S100) (l2 : List ByteArray) (l3 : List (List S46)) (l4 : List S98) (a5 : ByteArray) (a6 : Bool) : Option Int := some (Ab.opNeeds a0)
theorem scope_Needs.calls (r:Int) (w:World) (hr1:Kd.C k100 w A1 l1.length l1) (hc1:l1.length≤c1) (hr2:Kd.C Kd.string w A2 l2.length l2) (hc2:l2.length≤c2) (hr3:Kd.C (Kd.slice 46 k46) w A3 l3.length l3) (hc3:l3.length≤c3) (hr4:Kd.C k98 w A4 l4.length l4) (hc4:l4.length≤c4) (h:scope_Needs.f k a0 l1 l2 l3 l4 a5 a6=some r):
 Calls Tryz.prog 16 #[.agg #[.int .i64 a0,.slice A1 l1.length c1,.slice A2 l2.length c2,.slice A3 l3.length c3,.slice A4 l4.length c4,.string a5,.bool a6]] w fun e w'=>e= .returned (.int .i64 r)∧Below w.heap.size w w':=by
 obtain rfl:Ab.opNeeds a0=r:=Option.some.inj h;refine(calls_of (f:=16) (xs:= [.ag (Ab.eOp ⟨a0,l1,⟨l2,l3⟩,l4,a5,a6⟩)]) (q:=(Ab.I (Ab.opNeeds a0),[])) (vc k) ((congrFun (congrFun (congrFun (ve16 k) _) _) _).trans (Ab.needs_g a0 (l1.map Ab.eTri) (Ab.srow l2) (l3.map Ab.eRow) (l4.map Ab.ePart) a5 a6 (fun y=>some (Ab.I y,[])))) (fun x hx=>by obtain rfl:=List.mem_singleton.1 hx;rfl) (op_D a0 A1 c1 l1 A2 c2 l2 A3 c3 l3 A4 c4 l4 a5 a6 hr1 hc1 hr2 hc2 hr3 hc3 hr4 hc4)).mono ?_;rintro e w' ⟨v,D,rfl,hb,hd⟩;exact⟨by rw[dat_v hd],hb⟩
def scope_Right.f (k : Nat) (a0 : Int) (l1 : List S100) (l2 : List ByteArray) (l3 : List (List S46)) (l4 : List S98) (a5 : ByteArray) (a6 : Bool) : Option Bool :=
  if Ab.Fuel k ∧ (⟨a0, l1, ⟨l2, l3⟩, l4, a5, a6⟩ : Ab.OpS).lt k then some (Ab.opOK ⟨a0, l1, ⟨l2, l3⟩, l4, a5, a6⟩) else none
theorem scope_Right.calls (r:Bool) (w:World) (hr1:Kd.C k100 w A1 l1.length l1) (hc1:l1.length≤c1) (hr2:Kd.C Kd.string w A2 l2.length l2) (hc2:l2.length≤c2) (hr3:Kd.C (Kd.slice 46 k46) w A3 l3.length l3) (hc3:l3.length≤c3) (hr4:Kd.C k98 w A4 l4.length l4) (hc4:l4.length≤c4) (h:scope_Right.f k a0 l1 l2 l3 l4 a5 a6=some r):
 Calls Tryz.prog 26 #[.agg #[.int .i64 a0,.slice A1 l1.length c1,.slice A2 l2.length c2,.slice A3 l3.length c3,.slice A4 l4.length c4,.string a5,.bool a6]] w fun e w'=>e= .returned (.bool r)∧Below w.heap.size w w':=by
 unfold scope_Right.f at h;split at h
 ·rename_i hk;obtain rfl:=Option.some.inj h;refine(calls_of (f:=26) (xs:= [.ag (Ab.eOp ⟨a0,l1,⟨l2,l3⟩,l4,a5,a6⟩)]) (q:=(Ab.B (Ab.opOK ⟨a0,l1,⟨l2,l3⟩,l4,a5,a6⟩),[])) (vc k) ((congrFun (congrFun (congrFun (ve26 k) _) _) _).trans (Ab.opOK_g ⟨a0,l1,⟨l2,l3⟩,l4,a5,a6⟩ hk.1 hk.2 (fun y=>some (Ab.B y,[])))) (fun x hx=>by obtain rfl:=List.mem_singleton.1 hx;rfl) (op_D a0 A1 c1 l1 A2 c2 l2 A3 c3 l3 A4 c4 l4 a5 a6 hr1 hc1 hr2 hc2 hr3 hc3 hr4 hc4)).mono ?_;rintro e w' ⟨v,D,rfl,hb,hd⟩;exact⟨by rw[dat_v hd],hb⟩
 cases h
end
def slices_Contains_string_string.f (k : Nat) (l0 : List ByteArray) (a1 : ByteArray) : Option Bool := if l0.length < k ∧ k < 4611686018427387904 then some ((Ab.TB l0).contains a1.data.toList) else none
theorem slices_Contains_string_string.calls (k:Nat) (A0:Option Addr) (c0:Nat) (l0:List ByteArray) (a1:ByteArray) (r:Bool) (w:World) (hr0:Kd.C Kd.string w A0 l0.length l0) (hc0:l0.length≤c0) (h:slices_Contains_string_string.f k l0 a1=some r):
 Calls Tryz.prog 72 #[.slice A0 l0.length c0,.string a1] w fun e w'=>e= .returned (.bool r)∧Below w.heap.size w w':=by
 unfold slices_Contains_string_string.f at h;split at h
 ·rename_i hk;obtain rfl:=Option.some.inj h;refine(calls_of (f:=72) (xs:= [.sl false 1 (Ab.srow l0),Ab.S a1]) (q:=(Ab.B ((Ab.TB l0).contains a1.data.toList),[])) (vc k) ((congrFun (congrFun (congrFun (ve72 k) _) _) _).trans (Ab.contains_g l0 hk.1 hk.2 a1 (fun y=>some (Ab.B y,[])))) (fun x hx=>by simp only[List.mem_cons,List.not_mem_nil,or_false]at hx;rcases hx with rfl|rfl<;>rfl) (.cons (strs_D hc0 hr0) (.cons (.v rfl) .nil))).mono ?_;rintro e w' ⟨v,D,rfl,hb,hd⟩;exact⟨by rw[dat_v hd],hb⟩
 cases h
end Go.Proofs.YtcfoebkbahpnaaaGreat.Hd
