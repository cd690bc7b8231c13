/- What the reference's names come to: the same ones as in the program's sets. -/
import Derived.Test.YtcfoebkbahpnaaaDQa
namespace Go.Proofs.Ytcfoebkbahpnaaa.L
open Go.RowKit Go.Lib Go.Proofs.Ytcfoebkbahpnaaa Go.Proofs.YtcfoebkbahpnaaaW.PrintWords Go.Proofs.YtcfoebkbahpnaaaW.PrintLast
set_option linter.unusedVariables false
set_option linter.unusedSimpArgs false

theorem B_mem {l:List ByteArray} {a:ByteArray}:(B l).contains a.data.toList=true ↔ a ∈ l:=by
 unfold B;rw[List.contains_iff_mem,List.mem_map];constructor
 ·rintro⟨b,hb,h⟩;have:b=a:=by
   cases b with|mk x=>cases a with|mk y=>
   exact congrArg ByteArray.mk (Array.toList_inj.1 h)
  exact this ▸ hb
 intro h;exact⟨a,h,rfl⟩
theorem bool_iff {a b:Bool} (h:a=true ↔ b=true):a=b:=by rw[Bool.eq_iff_iff];exact h
/-! ### one more name -/
def insL (a : ByteArray) : Bool → List ByteArray → List ByteArray
  | true, r => r
  | false, [] => [a]
  | false, c :: r => if Op.bytesLess a.toList c.toList = true then a :: c :: r else c :: insL a false r
theorem insL_len (a:ByteArray): ∀ d r,(insL a d r).length≤r.length+1
 |true,r=>by simp[insL]
 |false,[]=>by simp[insL]
 |false,c::r=>by
  have:=insL_len a false r;rw[insL];split
  ·simp
  simp;omega
theorem insL_mem (a s:ByteArray): ∀ r,s ∈ insL a false r ↔ s ∈ r∨s=a
 | []=>by simp[insL]
 |c::r=>by
  rw[insL];split
  ·simp[or_comm,or_left_comm]
  rw[List.mem_cons,insL_mem a s r,List.mem_cons,or_assoc]
theorem more_loop (x:List ByteArray) (hx:x.length≤4294967296) (a:ByteArray): ∀ (r:List ByteArray) (i:Nat) (out:List ByteArray) (d:Bool),x.drop i=r→out.length+r.length≤4294967297+d.toNat→
 Ev (fun k=>legationref07_more.l0 k x a out d (i:Int)) (out++insL a d r):=by
 intro r;induction r with
 |nil=>
  intro i out d hd ho;have:=len_of_drop hd;refine Ev.step (fun k=>by rw[legationref07_more.l0]) ?_;simp only[if_neg (show ¬((i:Int)<(x.length:Int))by omega)];have hd2:d.toNat≤1:=by cases d<;>decide
  simp only[List.length_nil]at ho;cases d with
  |true=>simp only[if_true,insL,List.append_nil];exact Ev.now _
  |false=>simp only[Bool.false_eq_true,if_false,insL,if_pos (show out.length<8796093022208 by omega)];exact Ev.now _
 |cons c r ih=>
  intro i out d hd ho;obtain⟨hg,hi,hr,_⟩:=get_of_drop hd ByteArray.empty;refine Ev.step (fun k=>by rw[legationref07_more.l0]) ?_;have e:rdOf ByteArray.empty x (i:Int)=c:=hg;have hd2:d.toNat≤1:=by cases d<;>decide
  simp only[List.length_cons]at ho;simp only[if_pos (show(i:Int)<(x.length:Int)by omega),if_pos (show(0:Int)≤(i:Int)by omega),e,wrap_succ (show i<9223372036854775807 by omega),if_pos (show out.length<8796093022208 by omega)];cases d with
  |true=>
   simp only[if_true];have:=ih (i+1) (out++ [c]) true hr (by simp at ho ⊢;omega);rw[insL]at this ⊢;rwa[List.append_assoc]at this
  |false=>
   simp only[Bool.false_eq_true,if_false,Option.bind_some];by_cases hl:Op.bytesLess a.toList c.toList=true
   ·simp only[if_pos hl,if_pos (show(out++ [a]).length<8796093022208 by simp;omega)];have:=ih (i+1) (out++ [a]++ [c]) true hr (by simp at ho ⊢;omega);rw[insL]at this;rw[insL,if_pos hl];simpa using this
   simp only[if_neg hl];have:=ih (i+1) (out++ [c]) false hr (by simp at ho ⊢;omega);rw[insL,if_neg hl];simpa using this
def moreP (l : List ByteArray) (a : ByteArray) : List ByteArray := if (B l).contains a.data.toList = true then l else insL a false l
theorem moreP_len (l:List ByteArray) (a:ByteArray):(moreP l a).length≤l.length+1:=by
 unfold moreP;split
 ·omega
 exact insL_len a false l
theorem moreP_mem (l:List ByteArray) (a s:ByteArray):s ∈ moreP l a ↔ s ∈ l∨s=a:=by
 unfold moreP;split
 ·next h=>
  have:=B_mem.1 h;exact⟨.inl,fun h=>h.elim id (fun e=>e ▸ this)⟩
 exact insL_mem a s l
theorem more_ev (l:List ByteArray) (hl:l.length≤4294967296) (a:ByteArray):Ev (fun k=>legationref07_more.f k l a) (moreP l a):=by
 unfold legationref07_more.f moreP;refine Ev.bind (in_ev l (by omega) a) ?_;cases (B l).contains a.data.toList with
 |true=>simp only[if_true];exact Ev.now _
 |false=>
  simp only[Bool.false_eq_true,if_false];have:=more_loop l hl a l 0 [] false rfl (by simp;omega);simpa using this
/-! ### two lists of names -/
theorem foldM_len: ∀ (b a:List ByteArray),(b.foldl moreP a).length≤a.length+b.length
 | [],a=>by simp
 |c::b,a=>by
  have h1:=foldM_len b (moreP a c);have h2:=moreP_len a c;simp only[List.foldl_cons,List.length_cons];omega
theorem foldM_mem (s:ByteArray): ∀ (b a:List ByteArray),s ∈ b.foldl moreP a ↔ s ∈ a∨s ∈ b
 | [],a=>by simp
 |c::b,a=>by
  rw[List.foldl_cons,foldM_mem s b,moreP_mem,List.mem_cons,or_assoc]
theorem union_loop (x:List ByteArray): ∀ (r:List ByteArray) (i:Nat) (a:List ByteArray),x.drop i=r→a.length+r.length≤4294967296→x.length≤4294967296→
 Ev (fun k=>legationref07_union.l0 k a x (i:Int)) (r.foldl moreP a):=by
 intro r;induction r with
 |nil=>
  intro i a hd ho hx;have:=len_of_drop hd;refine Ev.step (fun k=>by rw[legationref07_union.l0]) ?_;simp only[if_neg (show ¬((i:Int)<(x.length:Int))by omega)];exact Ev.now _
 |cons c r ih=>
  intro i a hd ho hx;obtain⟨hg,hi,hr,_⟩:=get_of_drop hd ByteArray.empty;refine Ev.step (fun k=>by rw[legationref07_union.l0]) ?_;have e:rdOf ByteArray.empty x (i:Int)=c:=hg;simp only[List.length_cons]at ho;simp only[if_pos (show(i:Int)<(x.length:Int)by omega),if_pos (show(0:Int)≤(i:Int)by omega),e,wrap_succ (show i<9223372036854775807 by omega)];refine Ev.bind (more_ev a (by omega) c) ?_;have:=moreP_len a c;exact ih (i+1) _ hr (by omega) hx
theorem union_ev (a b:List ByteArray) (h:a.length+b.length≤4294967296):Ev (fun k=>legationref07_union.f k a b) (b.foldl moreP a):=union_loop b b 0 a rfl h (by omega)
/-! ### a leaf's names -/
theorem rmore_ev (l:List ByteArray) (h:l.length≤2) (kd:Int) (x y z:ByteArray):Ev (fun k=>legationref03_more.f k l kd x y z) (vstepP kd x l):=by
 unfold legationref03_more.f vstepP;by_cases h4:kd=4
 ·simp only[if_pos h4];refine Ev.bind (in_ev l (by omega) x) ?_;cases (B l).contains x.data.toList with
  |true=>simp only[if_true];exact Ev.now _
  |false=>simp only[Bool.false_eq_true,if_false,if_pos (show l.length<8796093022208 by omega)];exact Ev.now _
 simp only[if_neg h4];exact Ev.now _
theorem rvars_ev (t:S53):Ev (fun k=>legationref03_Vars.f k t.f0.f0 t.f0.f1 t.f0.f2 t.f0.f3 t.f1.f0 t.f1.f1 t.f1.f2 t.f1.f3 t.f2.f0 t.f2.f1 t.f2.f2 t.f2.f3) (varsOf t):=by
 unfold legationref03_Vars.f varsOf;have a:=(vstepP_len t.f0.f0 t.f0.f1 []).1;have b:=(vstepP_len t.f1.f0 t.f1.f1 (vstepP t.f0.f0 t.f0.f1 [])).1;exact Ev.bind (rmore_ev _ (by simp) _ _ _ _) (Ev.bind (rmore_ev _ (by simp at a;omega) _ _ _ _) (Ev.bind (rmore_ev _ (by simp at a;omega) _ _ _ _) (Ev.now _)))
def rleafT (l : List S53) (a : List ByteArray) : List ByteArray := l.foldl (fun a t => (varsOf t).foldl moreP a) a
theorem rleafT_len: ∀ (l:List S53) (a:List ByteArray),(rleafT l a).length≤a.length+3*l.length
 | [],a=>by simp[rleafT]
 |t::l,a=>by
  have h1:=rleafT_len l ((varsOf t).foldl moreP a);have h2:=foldM_len (varsOf t) a;have h3:=(varsOf_len t).1;unfold rleafT at h1 ⊢;simp only[List.foldl_cons,List.length_cons];omega
theorem rleafT_mem (s:ByteArray): ∀ (l:List S53) (a:List ByteArray),s ∈ rleafT l a ↔ s ∈ a∨ ∃ t ∈ l,s ∈ varsOf t
 | [],a=>by simp[rleafT]
 |t::l,a=>by
  have h1:=rleafT_mem s l ((varsOf t).foldl moreP a);unfold rleafT at h1 ⊢;rw[List.foldl_cons,h1,foldM_mem];simp[or_assoc]
theorem leafT_mem (s:ByteArray): ∀ (l:List S53) (O:List ByteArray),s ∈ leafT l O ↔ s ∈ O∨ ∃ t ∈ l,s ∈ varsOf t
 | [],O=>by simp[leafT]
 |t::l,O=>by
  rw[leafT,leafT_mem s l];simp[or_assoc,or_left_comm]
theorem leaf2_mem (m:Nat) (s:ByteArray): ∀ l O,s ∈ leaf2 m l O ↔ s ∈ l∨s ∈ O
 | [],O=>by simp[leaf2]
 |v::r,O=>by
  rw[leaf2,leaf2_mem m s r];simp[List.mem_replicate,or_assoc,or_left_comm]
def rleafP (o : S45) : List ByteArray := o.f2.f0.foldl moreP (rleafT o.f1 [])
theorem rleafP_len {o:S45} (h:opOK o=true):(rleafP o).length≤128:=by
 obtain⟨a,b,_⟩:=opOK_lens h;have h1:=rleafT_len o.f1 [];have h2:=foldM_len o.f2.f0 (rleafT o.f1 []);unfold rleafP;simp only[List.length_nil]at h1;omega
theorem rleafP_mem (o:S45) (s:ByteArray):s ∈ rleafP o ↔ s ∈ leafP o:=by
 unfold rleafP leafP;rw[foldM_mem,rleafT_mem,leaf2_mem,leafT_mem,or_comm]
theorem rleaf2_loop (o:S45) (out:List ByteArray) (j:Nat) (hj:j<o.f2.f0.length) (hrows: ∀ r ∈ o.f2.f1,r.length=o.f2.f0.length) (hl:o.f2.f1.length≤64) {v:List ByteArray}
 (hn:Ev (fun k=>(legationref07_more.f k out (rdOf ByteArray.empty o.f2.f0 (j:Int))).bind fun t=>legationref07_leaf.l1 k false t (wrap64 ((j:Int)+1)) o.f0 o.f1 o.f2.f0 o.f2.f1 o.f3 o.f4 o.f5) v): ∀ (r:List (List S50)) (m:Nat) (b:Bool),o.f2.f1.drop m=r→
 Ev (fun k=>legationref07_leaf.l2 k false out (j:Int) b (m:Int) o.f0 o.f1 o.f2.f0 o.f2.f1 o.f3 o.f4 o.f5) v:=by
 intro r;induction r with
 |nil=>
  intro m b hd;have:=len_of_drop hd;refine Ev.step (fun k=>by rw[legationref07_leaf.l2]) ?_;simp only[if_neg (show ¬((m:Int)<(o.f2.f1.length:Int))by omega),Bool.false_eq_true,if_false,if_pos (show(0:Int)≤(j:Int)by omega),if_pos (show(j:Int)<(o.f2.f0.length:Int)by omega)];exact hn
 |cons c r ih=>
  intro m b hd;obtain⟨hg,hi,hr,_⟩:=get_of_drop hd ([]:List S50);refine Ev.step (fun k=>by rw[legationref07_leaf.l2]) ?_;have e:rd_L4 o.f2.f1 (m:Int)=c:=hg;have hc:c ∈ o.f2.f1:=by
   have:c ∈ o.f2.f1.drop m:=(by rw[hd];exact List.mem_cons_self ..);exact List.mem_of_mem_drop this
  have hcl:=hrows c hc;simp only[if_pos (show(m:Int)<(o.f2.f1.length:Int)by omega),wrap_succ (show m<9223372036854775807 by omega),e];cases b with
  |true=>simp only[if_true];exact ih (m+1) true hr
  |false=>
   simp only[Bool.false_eq_true,if_false,if_pos (show(0:Int)≤(m:Int)by omega),if_pos (show(0:Int)≤(j:Int)by omega),if_pos (show(j:Int)<(c.length:Int)by omega)];exact ih (m+1) _ hr
theorem rleaf1_loop (o:S45) (hv:o.f2.f0.length≤32) (hrows: ∀ r ∈ o.f2.f1,r.length=o.f2.f0.length) (hl:o.f2.f1.length≤64): ∀ (r:List ByteArray) (j:Nat) (out:List ByteArray),o.f2.f0.drop j=r→out.length+r.length≤4294967296→
 Ev (fun k=>legationref07_leaf.l1 k false out (j:Int) o.f0 o.f1 o.f2.f0 o.f2.f1 o.f3 o.f4 o.f5) (r.foldl moreP out):=by
 intro r;induction r with
 |nil=>
  intro j out hd ho;have:=len_of_drop hd;refine Ev.step (fun k=>by rw[legationref07_leaf.l1]) ?_;simp only[if_neg (show ¬((j:Int)<(o.f2.f0.length:Int))by omega)];exact Ev.now _
 |cons c r ih=>
  intro j out hd ho;obtain⟨hg,hi,hr,_⟩:=get_of_drop hd ByteArray.empty;refine Ev.step (fun k=>by rw[legationref07_leaf.l1]) ?_;simp only[if_pos (show(j:Int)<(o.f2.f0.length:Int)by omega)];have e:rdOf ByteArray.empty o.f2.f0 (j:Int)=c:=hg;have:=moreP_len out c;simp only[List.length_cons]at ho;refine rleaf2_loop o out j hi hrows hl ?_ o.f2.f1 0 false rfl;rw[e];refine Ev.bind (more_ev out (by omega) c) ?_;rw[show wrap64 ((j:Int)+1)=((j+1:Nat):Int)by unfold wrap64;omega];exact ih (j+1) _ hr (by omega)
theorem rleaf0_loop (o:S45) (ht:o.f1.length≤32) (hv:o.f2.f0.length≤32) (hrows: ∀ r ∈ o.f2.f1,r.length=o.f2.f0.length) (hl:o.f2.f1.length≤64): ∀ (r:List S53) (i:Nat) (out:List ByteArray),o.f1.drop i=r→out.length+3*r.length≤100000→
 Ev (fun k=>legationref07_leaf.l0 k false out (i:Int) o.f0 o.f1 o.f2.f0 o.f2.f1 o.f3 o.f4 o.f5) (o.f2.f0.foldl moreP (rleafT r out)):=by
 intro r;induction r with
 |nil=>
  intro i out hd ho;have:=len_of_drop hd;refine Ev.step (fun k=>by rw[legationref07_leaf.l0]) ?_;simp only[if_neg (show ¬((i:Int)<(o.f1.length:Int))by omega)];exact rleaf1_loop o hv hrows hl o.f2.f0 0 out rfl (by simp at ho;omega)
 |cons c r ih=>
  intro i out hd ho;obtain⟨hg,hi,hr,_⟩:=get_of_drop hd z53;refine Ev.step (fun k=>by rw[legationref07_leaf.l0]) ?_;have e:rd_T53 o.f1 (i:Int)=c:=hg;simp only[if_pos (show(i:Int)<(o.f1.length:Int)by omega),if_pos (show(0:Int)≤(i:Int)by omega),e,wrap_succ (show i<9223372036854775807 by omega)];have h3:=(varsOf_len c).1;have h4:=foldM_len (varsOf c) out;simp only[List.length_cons]at ho;refine Ev.bind (rvars_ev c) (Ev.bind (union_ev out (varsOf c) (by omega)) ?_);exact ih (i+1) _ hr (by omega)
theorem rleaf_ev {o:S45} (h:opOK o=true):Ev (fun k=>legationref07_leaf.f k o.f0 o.f1 o.f2.f0 o.f2.f1 o.f3 o.f4 o.f5 false) (rleafP o):=by
 obtain⟨a,b,c,d⟩:=opOK_lens h;exact rleaf0_loop o a b d c o.f1 0 [] rfl (by simp;omega)
/-! ### an operation's names -/
theorem names0 {c:List S45} {i:Nat} {o:S45} (hi:i<c.length) (hg:rd_T45 c (i:Int)=o) (hn:opNeeds o.f0=0) (hok:opOK o=true):Ev (fun k=>legationref07_Names.f k c (i:Int) false) (rleafP o):=by
 refine Ev.step (fun k=>by rw[legationref07_Names.f]) ?_;simp only[if_pos (show(0:Int)≤(i:Int)by omega),if_pos (show(i:Int)<(c.length:Int)by omega),hg];refine Ev.bind (rneeds_ev _ _ _ _ _ _ _) ?_;simp only[hn,if_true];exact Ev.bind (rleaf_ev hok) (Ev.now _)
theorem names1 {c:List S45} {i:Nat} {o:S45} (hi:i+1<c.length) (hg:rd_T45 c ((i+1:Nat):Int)=o) (hn:opNeeds o.f0=1) {V:List ByteArray} (hV:Ev (fun k=>legationref07_Names.f k c (i:Int) false) V) (hl:V.length≤4294967296) (hc:c.length≤128):
 Ev (fun k=>legationref07_Names.f k c ((i+1:Nat):Int) false) (if o.f0=8 then moreP V o.f4 else V):=by
 refine Ev.step (fun k=>by rw[legationref07_Names.f]) ?_;simp only[if_pos (show(0:Int)≤((i+1:Nat):Int)by omega),if_pos (show((i+1:Nat):Int)<(c.length:Int)by omega),hg];refine Ev.bind (rneeds_ev _ _ _ _ _ _ _) ?_;simp only[hn,if_neg (show ¬((1:Int)=0)by decide),if_true,Bool.false_eq_true,if_false];refine Ev.step (fun k=>by rw[legationref07_Names.j0]) ?_;simp only[Bool.false_eq_true,if_false];rw[show wrap64 (((i+1:Nat):Int) - 1)=(i:Int)by unfold wrap64;omega];refine Ev.bind hV ?_;by_cases h8:o.f0=8
 ·simp only[if_pos h8];exact Ev.bind (more_ev V hl o.f4) (Ev.now _)
 simp only[if_neg h8];exact Ev.now _
theorem names2 {c:List S45} {i:Nat} {o:S45} (hi:i+1<c.length) (hg:rd_T45 c ((i+1:Nat):Int)=o) (hn:opNeeds o.f0=2) {F:Nat} (hF:Ev (fun k=>legationref07_From.f k c (i:Int)) ((F+1:Nat):Int)) {V W:List ByteArray}
 (hV:Ev (fun k=>legationref07_Names.f k c (F:Int) false) V) (hW:Ev (fun k=>legationref07_Names.f k c (i:Int) false) W) (hl:V.length+W.length≤4294967296) (hc:c.length≤128) (hFi:F≤128):
 Ev (fun k=>legationref07_Names.f k c ((i+1:Nat):Int) false) (if o.f0=6 then V else W.foldl moreP V):=by
 refine Ev.step (fun k=>by rw[legationref07_Names.f]) ?_;simp only[if_pos (show(0:Int)≤((i+1:Nat):Int)by omega),if_pos (show((i+1:Nat):Int)<(c.length:Int)by omega),hg];refine Ev.bind (rneeds_ev _ _ _ _ _ _ _) ?_;simp only[hn,if_neg (show ¬((2:Int)=0)by decide),if_neg (show ¬((2:Int)=1)by decide)];have e1:wrap64 (((i+1:Nat):Int) - 1)=(i:Int):=(by unfold wrap64;omega);have hS:Ev (fun k=>legationref07_Second.f k c ((i+1:Nat):Int)) ((F+1:Nat):Int):=by
  unfold legationref07_Second.f;rw[e1];exact Ev.bind hF (Ev.now _)
 refine Ev.bind hS ?_;rw[show wrap64 (((F+1:Nat):Int) - 1)=(F:Int)by unfold wrap64;omega];refine Ev.bind hV ?_;have j1f:Ev (fun k=>legationref07_Names.j1 k c ((i+1:Nat):Int) false V false o.f0 o.f1 o.f2.f0 o.f2.f1 o.f3 o.f4 o.f5) (W.foldl moreP V):=by
  refine Ev.step (fun k=>by rw[legationref07_Names.j1]) ?_;simp only[Bool.false_eq_true,if_false,e1];refine Ev.bind hW ?_;have j2:Ev (fun k=>legationref07_Names.j2 k V W false) (W.foldl moreP V):=by
   refine Ev.step (fun k=>by rw[legationref07_Names.j2]) ?_;simp only[Bool.false_eq_true,if_false];exact Ev.bind (union_ev V W hl) (Ev.now _)
  by_cases h4:o.f0=4
  ·simp only[if_pos h4];exact j2
  simp only[if_neg h4];exact j2
 by_cases h6:o.f0=6
 ·simp only[if_pos h6];refine Ev.step (fun k=>by rw[legationref07_Names.j1]) ?_;simp only[if_true];exact Ev.now _
 simp only[if_neg h6];by_cases h5:o.f0=5
 ·simp only[if_pos h5];exact j1f
 simp only[if_neg h5];exact j1f
end Go.Proofs.Ytcfoebkbahpnaaa.L
