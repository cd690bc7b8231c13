import Derived.Test.YtcfoebkbahpnaaaGreatZHn
set_option linter.unusedVariables false
set_option linter.unusedSimpArgs false
namespace Go.Proofs.YtcfoebkbahpnaaaGreat.Hd
open Go.RowKit Go.Proofs.YtcfoebkbahpnaaaGreatW.PrintWords Go.Proofs.YtcfoebkbahpnaaaGreatW.PrintLast
open Ab (DV AV Dat OwnA OwnS Pres Fresh AR ORep FunOK Ent EnvOK Enters RowsR slR Who Ro RW)
open Ab (RS oneL twoL leaf2 resFrom)
theorem triples_termsV.calls (a0 a1 a2:S46) (w:World):
 Calls Tryz.prog 77 #[.agg #[.int .i64 a0.f0,.string a0.f1,.string a0.f2,.string a0.f3,.int .i64 a1.f0,.string a1.f1,.string a1.f2,.string a1.f3,.int .i64 a2.f0,.string a2.f1,.string a2.f2,.string a2.f3]] w fun e w'=>e= .returned (.agg #[.int .i64 a0.f0,.string a0.f1,.string a0.f2,.string a0.f3,.int .i64 a1.f0,.string a1.f1,.string a1.f2,.string a1.f3,.int .i64 a2.f0,.string a2.f1,.string a2.f2,.string a2.f3])∧Below w.heap.size w w':=by
 go_enter Tryz.func77,Tryz.ntmps77;go_wp2;exact bodyPost_ret (results_single rfl (.cell _ 123 #[.int .i64 a0.f0,.string a0.f1,.string a0.f2,.string a0.f3,.int .i64 a1.f0,.string a1.f1,.string a1.f2,.string a1.f3,.int .i64 a2.f0,.string a2.f1,.string a2.f2,.string a2.f3] (0,0) _ rfl (by rw[← show(w.alloc (.cells #[.int .i64 a0.f0,.string a0.f1,.string a0.f2,.string a0.f3,.int .i64 a1.f0,.string a1.f1,.string a1.f2,.string a1.f3,.int .i64 a2.f0,.string a2.f1,.string a2.f2,.string a2.f3] 100)).heap.size=w.heap.size+1 by simp];exact heap_alloc_new _ _) Tryz.underlying123 rfl (by kernel_rfl) .nil)) rfl ⟨rfl,by exact below_alloc (below_alloc (Below.refl _ _) _) _⟩
theorem triples_ixV0 {v0 v1 v2 v3 v4 v5 v6 v7 v8 v9 v10 v11:Value} (w:World):(Instr.index 123 (.agg #[v0,v1,v2,v3,v4,v5,v6,v7,v8,v9,v10,v11]) (.int .i64 0)).run Tryz.prog w= .ok (.agg #[v0,v1,v2,v3]) w:=by
 have hu:=Tryz.underlying123;have hu2:=Tryz.underlying46;unfold Instr.index;go_simp
theorem triples_ixV1 {v0 v1 v2 v3 v4 v5 v6 v7 v8 v9 v10 v11:Value} (w:World):(Instr.index 123 (.agg #[v0,v1,v2,v3,v4,v5,v6,v7,v8,v9,v10,v11]) (.int .i64 1)).run Tryz.prog w= .ok (.agg #[v4,v5,v6,v7]) w:=by
 have hu:=Tryz.underlying123;have hu2:=Tryz.underlying46;unfold Instr.index;go_simp
theorem triples_ixV2 {v0 v1 v2 v3 v4 v5 v6 v7 v8 v9 v10 v11:Value} (w:World):(Instr.index 123 (.agg #[v0,v1,v2,v3,v4,v5,v6,v7,v8,v9,v10,v11]) (.int .i64 2)).run Tryz.prog w= .ok (.agg #[v8,v9,v10,v11]) w:=by
 have hu:=Tryz.underlying123;have hu2:=Tryz.underlying46;unfold Instr.index;go_simp
def triples_vstep (k : Nat) (kd : Int) (x : ByteArray) (out : List ByteArray) : Option (List ByteArray) :=
  if kd = 4 then ((slices_Contains_string_string.f k out x).bind fun t => if t = true then some out else (if out.length < 8796093022208 then some (out ++ [x]) else none)) else some out
def triples_Vars.f (k : Nat) (a0_0 : Int) (a0_1 : ByteArray) (a0_2 : ByteArray) (a0_3 : ByteArray) (a0_4 : Int) (a0_5 : ByteArray) (a0_6 : ByteArray) (a0_7 : ByteArray) (a0_8 : Int) (a0_9 : ByteArray) (a0_10 : ByteArray) (a0_11 : ByteArray) : Option (List ByteArray) :=
  (triples_vstep k a0_0 a0_1 []).bind fun y0 => (triples_vstep k a0_4 a0_5 y0).bind fun y1 => triples_vstep k a0_8 a0_9 y1
set_option maxHeartbeats 8000000 in
set_option maxRecDepth 1000000 in
theorem triples_Vars.calls (k:Nat) (a0_0:Int) (a0_1:ByteArray) (a0_2:ByteArray) (a0_3:ByteArray) (a0_4:Int) (a0_5:ByteArray) (a0_6:ByteArray) (a0_7:ByteArray) (a0_8:Int) (a0_9:ByteArray) (a0_10:ByteArray) (a0_11:ByteArray) (r:List ByteArray) (w:World) (h:triples_Vars.f k a0_0 a0_1 a0_2 a0_3 a0_4 a0_5 a0_6 a0_7 a0_8 a0_9 a0_10 a0_11=some r):
 Calls Tryz.prog 51 #[.agg #[.int .i64 a0_0,.string a0_1,.string a0_2,.string a0_3,.int .i64 a0_4,.string a0_5,.string a0_6,.string a0_7,.int .i64 a0_8,.string a0_9,.string a0_10,.string a0_11]] w fun e w'=> ∃ v0_:Value,e= .returned v0_∧Kd.R Kd.string 9 w' w.heap.size (fun _=>True) v0_ r∧Below w.heap.size w w':=by
 unfold triples_Vars.f at h;obtain⟨y0,hy0,h⟩:=Option.bind_eq_some_iff.1 h;obtain⟨y1,hy1,h⟩:=Option.bind_eq_some_iff.1 h;have HY0:=Aside0.mk hy0;have HY1:=Aside0.mk hy1;have HY2:=Aside0.mk h;clear h hy0 hy1;have hx0:= @triples_ixV0;have hx1:= @triples_ixV1;have hx2:= @triples_ixV2;go_enter Tryz.func51,Tryz.ntmps51;go_wp2_with fail;refine(triples_termsV.calls ⟨a0_0,a0_1,a0_2,a0_3⟩ ⟨a0_4,a0_5,a0_6,a0_7⟩ ⟨a0_8,a0_9,a0_10,a0_11⟩ _).mono ?_;rintro e w1 ⟨rfl,hb1⟩;have HB0:=Aside0.mk ((below_alloc (Below.refl w.heap.size w) (.cells #[.int .i64 a0_0,.string a0_1,.string a0_2,.string a0_3,.int .i64 a0_4,.string a0_5,.string a0_6,.string a0_7,.int .i64 a0_8,.string a0_9,.string a0_10,.string a0_11] 100)).trans (hb1.mono (by simp)));have HO0:=Aside0.mk (Kd.R_nil Kd.string 9 w1 w.heap.size (fun _=>True));clear hb1;go_wp2_with fail;refine wp_loop_rounds 4 ?_;rw[rounds_succ];go_upto_block 1 with (fail)
 go_cut [3] (fun v3 wd=>Aside0 (Kd.R Kd.string 9 wd w.heap.size (fun _=>True) v3 y0)∧Aside0 (Below w.heap.size w wd));case first=>
  have hy:=HY0.out;unfold triples_vstep at hy;clear HY0;by_cases c1:a0_0=4;case neg=>
   rw[if_neg c1]at hy;obtain rfl:=Option.some.inj hy;have c1b:(a0_0==4)=false:=beq_eq_false_iff_ne.mpr c1;clear c1 hy;go_wp2;go_meet;case rel=>exact⟨⟨Kd.R_alloc HO0.out _⟩,⟨below_alloc HB0.out _⟩⟩
  rw[if_pos c1]at hy;have c1b:(a0_0==4)=true:=beq_iff_eq.mpr c1;obtain⟨t,ht,hy⟩:=Option.bind_eq_some_iff.1 hy;obtain⟨A,c,e,hlen,hC⟩:=Kd.R_reads HO0.out;cases e
  have HT:=Aside0.mk ht;have HL:=Aside0.mk hlen;have HC:=Aside0.mk hC;have HY:=Aside0.mk hy;clear c1 hy ht hlen hC;go_wp2_with fail;refine(slices_Contains_string_string.calls k _ _ ([]:List ByteArray) a0_1 t _ (Kd.C_alloc HC.out _) HL.out HT.out).mono ?_;rintro e w2 ⟨rfl,hbw⟩;have hy:=HY.out;have HO:=Aside0.mk (Kd.R_below (Kd.R_alloc HO0.out (.cells #[.int .i64 a0_0,.string a0_1,.string a0_2,.string a0_3] 46)) hbw);have HB:=Aside0.mk (below_then (below_alloc HB0.out (.cells #[.int .i64 a0_0,.string a0_1,.string a0_2,.string a0_3] 46)) ((below_alloc HB0.out (.cells #[.int .i64 a0_0,.string a0_1,.string a0_2,.string a0_3] 46)).size) hbw);clear HO0 HB0 HC HL HY HT;have HBK:=Aside0.mk (blk_below (heap_alloc_new w1 (.cells #[.int .i64 a0_0,.string a0_1,.string a0_2,.string a0_3] 46)) hbw);have hq1:=blk_cell HBK.out 1;cases t with
  |true=>
   simp only[if_true]at hy;obtain rfl:=Option.some.inj hy;clear hy;go_wp2;go_meet;case rel=>exact⟨HO,HB⟩
  |false=>
   simp only[Bool.false_eq_true,if_false]at hy;by_cases c2:([]:List ByteArray).length<8796093022208;case neg=>rw[if_neg c2]at hy;cases hy
   rw[if_pos c2]at hy;obtain rfl:=Option.some.inj hy;have LM:=Aside0.mk c2;clear hy c2;go_upto_region 6 with (fail)
   generalize hU:Value.slice none 0 0=U at HO ⊢;have HU:=Aside0.mk hU;clear hU;go_wp2_with (((with_reducible refine gate_builtin (b:= .append) (xs:= #[.tmp 21,.tmp 24]) rfl ?_);at_builtin;refine Kd.R_append Kd.string (w0:=w) w.heap.size rfl (.tmp 21) (.tmp 24) 37 9 (.string ⟨#[]⟩) 16 rfl Tryz.underlying37 info9 rfl (by decide) (by omega) U ([]:List ByteArray) a0_1 [.string a0_1] (fun _=>True) (fun _=>False) rfl rfl ?aP (fun _ hk=>hk.elim) ?aF ?aO ?aB ?aS ?aL ?_;(case aP=>exact rfl);(case aB=>exact HB.out);(case aF=>exact(fun _ _=>trivial));(case aO=>exact HO.out);(case aS=>exact HB.out.size);(case aL=>have:=LM.out;omega);intro v303 w8 ho hb hg hat;clear HB HO hg hat;have HB:=Aside0.mk hb;have HO:=Aside0.mk ho;clear hb ho));have hU:=HU.out;subst hU;go_meet;case rel=>exact⟨HO,HB⟩
 case rest=>
  obtain⟨HO1,HB1⟩:=hcut;clear HO0 HB0 HY0;go_wp2_with fail;rw[rounds_succ];go_upto_block 1 with (fail)
  go_cut [3] (fun v3 wd=>Aside0 (Kd.R Kd.string 9 wd w.heap.size (fun _=>True) v3 y1)∧Aside0 (Below w.heap.size w wd));case first=>
   have hy:=HY1.out;unfold triples_vstep at hy;clear HY1;by_cases c1:a0_4=4;case neg=>
    rw[if_neg c1]at hy;obtain rfl:=Option.some.inj hy;have c1b:(a0_4==4)=false:=beq_eq_false_iff_ne.mpr c1;clear c1 hy;go_wp2;go_meet;case rel=>exact⟨⟨Kd.R_alloc HO1.out _⟩,⟨below_alloc HB1.out _⟩⟩
   rw[if_pos c1]at hy;have c1b:(a0_4==4)=true:=beq_iff_eq.mpr c1;obtain⟨t,ht,hy⟩:=Option.bind_eq_some_iff.1 hy;obtain⟨A,c,e,hlen,hC⟩:=Kd.R_reads HO1.out;cases e
   have HT:=Aside0.mk ht;have HL:=Aside0.mk hlen;have HC:=Aside0.mk hC;have HY:=Aside0.mk hy;clear c1 hy ht hlen hC;go_wp2_with fail;refine(slices_Contains_string_string.calls k _ _ y0 a0_5 t _ (Kd.C_alloc HC.out _) HL.out HT.out).mono ?_;rintro e w2 ⟨rfl,hbw⟩;have hy:=HY.out;have HO:=Aside0.mk (Kd.R_below (Kd.R_alloc HO1.out (.cells #[.int .i64 a0_4,.string a0_5,.string a0_6,.string a0_7] 46)) hbw);have HB:=Aside0.mk (below_then (below_alloc HB1.out (.cells #[.int .i64 a0_4,.string a0_5,.string a0_6,.string a0_7] 46)) ((below_alloc HB1.out (.cells #[.int .i64 a0_4,.string a0_5,.string a0_6,.string a0_7] 46)).size) hbw);clear HO1 HB1 HC HL HY HT;have HBK:=Aside0.mk (blk_below (heap_alloc_new wc (.cells #[.int .i64 a0_4,.string a0_5,.string a0_6,.string a0_7] 46)) hbw);have hq1:=blk_cell HBK.out 1;cases t with
   |true=>
    simp only[if_true]at hy;obtain rfl:=Option.some.inj hy;clear hy;go_wp2;go_meet;case rel=>exact⟨HO,HB⟩
   |false=>
    simp only[Bool.false_eq_true,if_false]at hy;by_cases c2:y0.length<8796093022208;case neg=>rw[if_neg c2]at hy;cases hy
    rw[if_pos c2]at hy;obtain rfl:=Option.some.inj hy;have LM:=Aside0.mk c2;clear hy c2;go_wp2_with (((with_reducible refine gate_builtin (b:= .append) (xs:= #[.tmp 21,.tmp 24]) rfl ?_);at_builtin;refine Kd.R_append Kd.string (w0:=w) w.heap.size rfl (.tmp 21) (.tmp 24) 37 9 (.string ⟨#[]⟩) 16 rfl Tryz.underlying37 info9 rfl (by decide) (by omega) _ y0 a0_5 [.string a0_5] (fun _=>True) (fun _=>False) rfl rfl ?aP (fun _ hk=>hk.elim) ?aF ?aO ?aB ?aS ?aL ?_;(case aP=>exact rfl);(case aB=>exact HB.out);(case aF=>exact(fun _ _=>trivial));(case aO=>exact HO.out);(case aS=>exact HB.out.size);(case aL=>have:=LM.out;omega);intro v303 w8 ho hb hg hat;clear HB HO hg hat;have HB:=Aside0.mk hb;have HO:=Aside0.mk ho;clear hb ho));go_meet;case rel=>exact⟨HO,HB⟩
  case rest=>
   obtain⟨HO2,HB2⟩:=hcut;clear HO1 HB1 HY1;go_wp2_with fail;rw[rounds_succ];go_upto_block 1 with (fail)
   go_cut [3] (fun v3 wd=>Aside0 (Kd.R Kd.string 9 wd w.heap.size (fun _=>True) v3 r)∧Aside0 (Below w.heap.size w wd));case first=>
    have hy:=HY2.out;unfold triples_vstep at hy;clear HY2;by_cases c1:a0_8=4;case neg=>
     rw[if_neg c1]at hy;obtain rfl:=Option.some.inj hy;have c1b:(a0_8==4)=false:=beq_eq_false_iff_ne.mpr c1;clear c1 hy;go_wp2;go_meet;case rel=>exact⟨⟨Kd.R_alloc HO2.out _⟩,⟨below_alloc HB2.out _⟩⟩
    rw[if_pos c1]at hy;have c1b:(a0_8==4)=true:=beq_iff_eq.mpr c1;obtain⟨t,ht,hy⟩:=Option.bind_eq_some_iff.1 hy;obtain⟨A,c,e,hlen,hC⟩:=Kd.R_reads HO2.out;cases e
    have HT:=Aside0.mk ht;have HL:=Aside0.mk hlen;have HC:=Aside0.mk hC;have HY:=Aside0.mk hy;clear c1 hy ht hlen hC;go_wp2_with fail;refine(slices_Contains_string_string.calls k _ _ y1 a0_9 t _ (Kd.C_alloc HC.out _) HL.out HT.out).mono ?_;rintro e w2 ⟨rfl,hbw⟩;have hy:=HY.out;have HO:=Aside0.mk (Kd.R_below (Kd.R_alloc HO2.out (.cells #[.int .i64 a0_8,.string a0_9,.string a0_10,.string a0_11] 46)) hbw);have HB:=Aside0.mk (below_then (below_alloc HB2.out (.cells #[.int .i64 a0_8,.string a0_9,.string a0_10,.string a0_11] 46)) ((below_alloc HB2.out (.cells #[.int .i64 a0_8,.string a0_9,.string a0_10,.string a0_11] 46)).size) hbw);clear HO2 HB2 HC HL HY HT;have HBK:=Aside0.mk (blk_below (heap_alloc_new wc (.cells #[.int .i64 a0_8,.string a0_9,.string a0_10,.string a0_11] 46)) hbw);have hq1:=blk_cell HBK.out 1;cases t with
    |true=>
     simp only[if_true]at hy;obtain rfl:=Option.some.inj hy;clear hy;go_wp2;go_meet;case rel=>exact⟨HO,HB⟩
    |false=>
     simp only[Bool.false_eq_true,if_false]at hy;by_cases c2:y1.length<8796093022208;case neg=>rw[if_neg c2]at hy;cases hy
     rw[if_pos c2]at hy;obtain rfl:=Option.some.inj hy;have LM:=Aside0.mk c2;clear hy c2;go_wp2_with (((with_reducible refine gate_builtin (b:= .append) (xs:= #[.tmp 21,.tmp 24]) rfl ?_);at_builtin;refine Kd.R_append Kd.string (w0:=w) w.heap.size rfl (.tmp 21) (.tmp 24) 37 9 (.string ⟨#[]⟩) 16 rfl Tryz.underlying37 info9 rfl (by decide) (by omega) _ y1 a0_9 [.string a0_9] (fun _=>True) (fun _=>False) rfl rfl ?aP (fun _ hk=>hk.elim) ?aF ?aO ?aB ?aS ?aL ?_;(case aP=>exact rfl);(case aB=>exact HB.out);(case aF=>exact(fun _ _=>trivial));(case aO=>exact HO.out);(case aS=>exact HB.out.size);(case aL=>have:=LM.out;omega);intro v303 w8 ho hb hg hat;clear HB HO hg hat;have HB:=Aside0.mk hb;have HO:=Aside0.mk ho;clear hb ho));go_meet;case rel=>exact⟨HO,HB⟩
   case rest=>
    obtain⟨HO3,HB3⟩:=hcut;clear HO2 HB2 HY2;go_wp2_with fail;rw[rounds_succ];go_wp2;go_ret;exact⟨_,rfl,HO3.out,HB3.out⟩
theorem wrap_nat1 {n:Nat} (h:n<9223372036854775807):wrap64 ((n:Int)+1)=((n+1:Nat):Int):=by unfold wrap64;omega
def leaf1 (k : Nat) : List (S100) → List ByteArray → Option (List ByteArray)
  | [], O => some O
  | t :: r, O => (triples_Vars.f k t.f0.f0 t.f0.f1 t.f0.f2 t.f0.f3 t.f1.f0 t.f1.f1 t.f1.f2 t.f1.f3 t.f2.f0 t.f2.f1 t.f2.f2 t.f2.f3).bind fun vs =>
    if vs.length + O.length < 4294967296 ∧ (∀ s ∈ vs, s.size ≤ maxLen) then leaf1 k r (vs.reverse ++ O) else none
theorem leaf2_len (m:Nat): ∀ l O,(leaf2 m l O).length=(m+1)*l.length+O.length
 | [],O=>by simp[leaf2]
 |v::r,O=>by rw[leaf2,leaf2_len m r];simp[Nat.mul_add];omega
def scope_leaf.f (k : Nat) (l1 : List (S100)) (l2 : List ByteArray) (l3 : List (List (S46))) : Option (List ByteArray) :=
  (leaf1 k l1 []).bind fun O => if l1.length < 4294967296 ∧ (l3.length + 1) * l2.length + O.length < 4294967296 ∧ (∀ s ∈ l2, s.size ≤ maxLen) ∧ (∀ r ∈ l3, l2.length ≤ r.length) then some (leaf2 l3.length l2 O) else none
set_option maxHeartbeats 8000000 in
set_option maxRecDepth 1000000 in
theorem scope_leaf.calls (k:Nat) (a0:Int) (A1:Option Addr) (c1:Nat) (l1:List (S100)) (A2:Option Addr) (c2:Nat) (l2:List ByteArray) (A3:Option Addr) (c3:Nat) (l3:List (List (S46))) (v4:Value) (hv:v4.oneCell'=true) (a5:ByteArray) (a6:Bool) (T:List ByteArray) (w:World)
 (h1:Kd.C k100 w A1 l1.length l1) (h2:Kd.C Kd.string w A2 l2.length l2) (h3:Kd.C (Kd.slice 46 k46) w A3 l3.length l3) (h:scope_leaf.f k l1 l2 l3=some T):
 Calls Tryz.prog 27 #[.agg #[.int .i64 a0,.slice A1 l1.length c1,.slice A2 l2.length c2,.slice A3 l3.length c3,v4,.string a5,.bool a6]] w fun e w'=> ∃ g:Nat,e= .returned (.map (some g))∧w.heap.size≤g∧MapS w' g T.length T∧Below w.heap.size w w':=by
 unfold scope_leaf.f at h;obtain⟨O1,hO,h⟩:=Option.bind_eq_some_iff.1 h;by_cases hc:l1.length<4294967296∧(l3.length+1)*l2.length+O1.length<4294967296∧(∀ s ∈ l2,s.size≤maxLen)∧(∀ r ∈ l3,l2.length≤r.length);case neg=>rw[if_neg hc]at h;cases h
 rw[if_pos hc]at h;obtain rfl:=Option.some.inj h;have H1:=Aside0.mk h1;have H2:=Aside0.mk h2;have H3:=Aside0.mk h3;have HO:=Aside0.mk hO;have HC:=Aside0.mk hc;have HL2:=Aside0.mk (show l2.length<4294967296 by
  have h_:=Nat.le_mul_of_pos_left l2.length (show 0<l3.length+1 by omega);have:=hc.2.1;omega)
 clear h1 h2 h3 hO hc h;have hmm:= @run_makeMap Tryz.prog;have hu53:=Tryz.underlying100;have hu45:=Tryz.underlying43;have e1:((w.alloc (.cells #[.int .i64 a0,.slice A1 l1.length c1,.slice A2 l2.length c2,.slice A3 l3.length c3,v4,.string a5,.bool a6] 43)).alloc (.map #[] 0)).heap.size=w.heap.size+2:=(by simp);have HBK0:=Aside0.mk (blk_alloc (heap_alloc_new w (.cells #[.int .i64 a0,.slice A1 l1.length c1,.slice A2 l2.length c2,.slice A3 l3.length c3,v4,.string a5,.bool a6] 43)) (.map #[] 0));have HM0:=Aside0.mk (MapS.made (w.alloc (.cells #[.int .i64 a0,.slice A1 l1.length c1,.slice A2 l2.length c2,.slice A3 l3.length c3,v4,.string a5,.bool a6] 43)));have HB0:=Aside0.mk (below_alloc (below_alloc (Below.refl w.heap.size w) (.cells #[.int .i64 a0,.slice A1 l1.length c1,.slice A2 l2.length c2,.slice A3 l3.length c3,v4,.string a5,.bool a6] 43)) (.map #[] 0));go_enter Tryz.func27,Tryz.ntmps27;go_wp2_with fail;rw[show(w.alloc (.cells #[.int .i64 a0,.slice A1 l1.length c1,.slice A2 l2.length c2,.slice A3 l3.length c3,v4,.string a5,.bool a6] 43)).heap.size=w.heap.size+1 by simp]at HM0;clear e1 hmm;generalize (w.alloc (.cells #[.int .i64 a0,.slice A1 l1.length c1,.slice A2 l2.length c2,.slice A3 l3.length c3,v4,.string a5,.bool a6] 43)).alloc (.map #[] 0)=w1 at*;go_loopw [5,7,16] (fun v5 v7 v16 wr=> ∃ (i:Nat) (O:List ByteArray),v16= .int .i64 (i:Int)∧Aside0 (i≤l1.length)∧Aside0 (leaf1 k (l1.drop i) O=some O1)∧Aside0 (MapS wr (w.heap.size+1) O.length O)∧Aside0 (wr.heap[w.heap.size]? =some (.cells #[.int .i64 a0,.slice A1 l1.length c1,.slice A2 l2.length c2,.slice A3 l3.length c3,v4,.string a5,.bool a6] 43 (0,0)))∧Aside0 (Below w.heap.size w wr)) (fun _ _ v16 _=>l1.length - (intOf v16).toNat);(case atStart=>exact⟨0,[],rfl,⟨Nat.zero_le _⟩,HO,HM0,HBK0,HB0⟩);case round=>
  obtain⟨i,O,rfl,HI,HO,HM,HBK,HB⟩:=hrel;clear HM0 HBK0 HB0;by_cases ci:i<l1.length
  ·obtain⟨tr,htr,hd⟩: ∃ tr,rd_T100 l1 (i:Int)=tr∧l1.drop i=tr::l1.drop (i+1):=by
    refine⟨l1[i],?_,List.drop_eq_getElem_cons ci⟩;unfold rd_T100;rw[Int.toNat_natCast,List.getD_eq_getElem?_getD,List.getElem?_eq_getElem ci];rfl
   have hl:=HO.out;rw[hd,leaf1]at hl;obtain⟨vs,hvs,hl2⟩:=Option.bind_eq_some_iff.1 hl;by_cases cl:vs.length+O.length<4294967296∧(∀ s ∈ vs,s.size≤maxLen);case neg=>rw[if_neg cl]at hl2;cases hl2
   rw[if_pos cl]at hl2;have HVS:=Aside0.mk hvs;have HL:=Aside0.mk hl2;have HCL:=Aside0.mk cl;obtain⟨ad,e,q⟩:=at_T100 (Kd.C_below H1.out HB.out) (i:Int) (by omega) (by omega);rw[htr]at q;simp only[Int.toNat_natCast]at q;cases e
   obtain⟨q0,q1,q2,q3,q4,q5,q6,q7,q8,q9,q10,q11⟩:=q;have i0:((0:Int)≤(i:Int))=True:=eq_true (by omega);have i1:((i:Int)<(l1.length:Int))=True:=eq_true (by omega);have i2:decide ((i:Int)<(l1.length:Int))=true:=decide_eq_true (by omega);have CI:=Aside0.mk ci;clear hd hl hl2 hvs cl htr ci HO;go_wp2_with fail;refine(triples_Vars.calls k tr.f0.f0 tr.f0.f1 tr.f0.f2 tr.f0.f3 tr.f1.f0 tr.f1.f1 tr.f1.f2 tr.f1.f3 tr.f2.f0 tr.f2.f1 tr.f2.f2 tr.f2.f3 vs _ HVS.out).mono ?_;rintro e w2 ⟨v0,rfl,hR,hb2⟩;obtain⟨A,c,rfl,_,_⟩:=Kd.R_reads hR;have hsz:(wr.alloc (.cells #[.int .i64 tr.f0.f0,.string tr.f0.f1,.string tr.f0.f2,.string tr.f0.f3,.int .i64 tr.f1.f0,.string tr.f1.f1,.string tr.f1.f2,.string tr.f1.f3,.int .i64 tr.f2.f0,.string tr.f2.f1,.string tr.f2.f2,.string tr.f2.f3] 100)).heap.size=wr.heap.size+1:=(by simp);have hlow:=HM.out.lt;have HR:=Aside0.mk (Kd.R_mono (ok':=fun k_=>w.heap.size+1<k_) (Kd.R_bound hR) (fun k_ hk=>by have:=hk.2.1;omega));have HM2:=Aside0.mk ((HM.out.below (below_alloc (Below.refl _ _) (.cells #[.int .i64 tr.f0.f0,.string tr.f0.f1,.string tr.f0.f2,.string tr.f0.f3,.int .i64 tr.f1.f0,.string tr.f1.f1,.string tr.f1.f2,.string tr.f1.f3,.int .i64 tr.f2.f0,.string tr.f2.f1,.string tr.f2.f2,.string tr.f2.f3] 100))).below hb2);have HBK2:=Aside0.mk (blk_below (blk_alloc HBK.out (.cells #[.int .i64 tr.f0.f0,.string tr.f0.f1,.string tr.f0.f2,.string tr.f0.f3,.int .i64 tr.f1.f0,.string tr.f1.f1,.string tr.f1.f2,.string tr.f1.f3,.int .i64 tr.f2.f0,.string tr.f2.f1,.string tr.f2.f2,.string tr.f2.f3] 100)) hb2);have HB2:=Aside0.mk (below_then (below_alloc HB.out (.cells #[.int .i64 tr.f0.f0,.string tr.f0.f1,.string tr.f0.f2,.string tr.f0.f3,.int .i64 tr.f1.f0,.string tr.f1.f1,.string tr.f1.f2,.string tr.f1.f3,.int .i64 tr.f2.f0,.string tr.f2.f1,.string tr.f2.f2,.string tr.f2.f3] 100)) (below_alloc HB.out _).size hb2);clear hb2 hR hsz hlow HM HBK HB q0 q1 q2 q3 q4 q5 q6 q7 q8 q9 q10 q11 HVS;go_wp2_with fail;generalize (wr.alloc (.cells #[.int .i64 tr.f0.f0,.string tr.f0.f1,.string tr.f0.f2,.string tr.f0.f3,.int .i64 tr.f1.f0,.string tr.f1.f1,.string tr.f1.f2,.string tr.f1.f3,.int .i64 tr.f2.f0,.string tr.f2.f1,.string tr.f2.f2,.string tr.f2.f3] 100)).heap.size=base at*;go_loopw [7,23] (fun _ v23 wx=> ∃ j:Nat,v23= .int .i64 (j:Int)∧Aside0 (j≤vs.length)∧Aside0 (MapS wx (w.heap.size+1) ((vs.take j).reverse++O).length ((vs.take j).reverse++O))∧Aside0 (Kd.R Kd.string 9 wx base (fun k_=>w.heap.size+1<k_) (.slice A vs.length c) vs)∧Aside0 (wx.heap[w.heap.size]? =some (.cells #[.int .i64 a0,.slice (some ad) l1.length c1,.slice A2 l2.length c2,.slice A3 l3.length c3,v4,.string a5,.bool a6] 43 (0,0)))∧Aside0 (Below w.heap.size w wx)) (fun _ v23 _=>vs.length - (intOf v23).toNat);(case atStart=>exact⟨0,rfl,⟨Nat.zero_le _⟩,⟨by simpa using HM2.out⟩,HR,HBK2,HB2⟩);case round=>
    obtain⟨j,rfl,HJ,HM,HR,HBK,HB⟩:=hrel;clear HM2 HBK2 HB2;by_cases cj:j<vs.length
    ·obtain⟨A',c',e',_,hC'⟩:=Kd.R_reads HR.out;cases e'
     obtain⟨ae,e',hx⟩:=Kd.at_string hC' (j:Int) (by omega) (by omega);cases e'
     have htk:(vs.take (j+1)).reverse++O=rdOf ByteArray.empty vs (j:Int)::((vs.take j).reverse++O):=by
      rw[List.take_succ_eq_append_getElem cj,List.reverse_append];unfold rdOf;rw[Int.toNat_natCast,List.getD_eq_getElem?_getD,List.getElem?_eq_getElem cj];rfl
     have hxs:(rdOf ByteArray.empty vs (j:Int)).size≤maxLen:=by
      unfold rdOf;rw[Int.toNat_natCast,List.getD_eq_getElem?_getD,List.getElem?_eq_getElem cj];exact HCL.out.2 _ (List.getElem_mem cj)
     simp only[Int.toNat_natCast]at hx;have j0:((0:Int)≤(j:Int))=True:=eq_true (by omega);have j1:((j:Int)<(vs.length:Int))=True:=eq_true (by omega);have j2:decide ((j:Int)<(vs.length:Int))=true:=decide_eq_true (by omega);have CJ:=Aside0.mk cj;have HTK:=Aside0.mk htk;have HXS:=Aside0.mk hxs;clear hC' cj htk hxs;generalize rdOf ByteArray.empty vs (j:Int)=x at*;go_wp2_with (first|(at_mapUpdate;refine MapS.wp_put _ rfl _ _ _ 75 rfl Tryz.underlying75 (w.heap.size+1) _ _ rfl HM.out (by have:=HCL.out.1;have:=HJ.out;show _<2 ^ 63 - 1;simp;omega) x _ HXS.out rfl rfl ?_;intro w3 hm3 hg3;go_frame)|go_in);go_roundw;case rel=>
      refine⟨j+1,by rw[wrap_nat1 (by have:=CJ.out;have:=HCL.out.1;omega)],⟨by have:=CJ.out;omega⟩,⟨?_⟩,⟨Kd.R_grown HR.out hg3 (fun k_ hk e_=>by have:=Option.some.inj e_;omega)⟩,⟨blk_grown HBK.out hg3 (by simp)⟩,⟨HB.out.grown hg3 HB.out.size (fun k_ hk=>by cases hk;exact Nat.le_succ _)⟩⟩;rw[HTK.out];exact hm3
     case measure=>
      have:=CJ.out;have:=HCL.out.1;rw[wrap_nat1 (by omega)];simp only[intOf,Int.toNat_natCast];omega
    have hj:j=vs.length:=(by have:=HJ.out;omega);have j2:decide ((j:Int)<(vs.length:Int))=false:=decide_eq_false (by omega);have j3:(j<vs.length)=False:=eq_false cj;have j4:((j:Int)<(vs.length:Int))=False:=eq_false (by omega);have HJE:=Aside0.mk hj;clear cj hj;go_wp2_with fail;go_roundw;case rel=>
     have hm:=HM.out;rw[HJE.out,List.take_length]at hm;have:=CI.out;refine⟨i+1,vs.reverse++O,by rw[wrap_nat1 (by have:=HC.out.1;omega)],⟨by omega⟩,HL,⟨hm⟩,HBK,HB⟩
    case measure=>
     have:=CI.out;rw[wrap_nat1 (by have:=HC.out.1;omega)];simp only[intOf,Int.toNat_natCast];omega
  have hi:i=l1.length:=(by have:=HI.out;omega);have i2:decide ((i:Int)<(l1.length:Int))=false:=decide_eq_false (by omega);have i3:(i<l1.length)=False:=eq_false ci;have i4:((i:Int)<(l1.length:Int))=False:=eq_false (by omega);have hk2:=blk_cell HBK.out 2;have hl:=HO.out;rw[hi,List.drop_length]at hl;obtain rfl:=Option.some.inj hl;clear hl hi ci HO;have HTL:=Aside0.mk (show(leaf2 l3.length l2 O).length<4294967296 by rw[leaf2_len];exact HC.out.2.1);have HM0:=HM;have HBK0:=HBK;have HB0:=HB;clear HM HBK HB;go_wp2_with fail;clear hk2;generalize hT:leaf2 l3.length l2 O=T at*;have HT0:=Aside0.mk hT;have HTE:=HT0;clear hT;go_loopw [8,9,11,35] (fun _ _ _ v35 wx=> ∃ (j:Nat) (O':List ByteArray),v35= .int .i64 (j:Int)∧Aside0 (j≤l2.length)∧Aside0 (leaf2 l3.length (l2.drop j) O'=T)∧Aside0 (MapS wx (w.heap.size+1) O'.length O')∧Aside0 (wx.heap[w.heap.size]? =some (.cells #[.int .i64 a0,.slice A1 l1.length c1,.slice A2 l2.length c2,.slice A3 l3.length c3,v4,.string a5,.bool a6] 43 (0,0)))∧Aside0 (Below w.heap.size w wx)) (fun _ _ _ v35 _=>l2.length - (intOf v35).toNat);(case atStart=>exact⟨0,O,rfl,⟨Nat.zero_le _⟩,HT0,HM0,HBK0,HB0⟩);case round=>
   obtain⟨j,O',rfl,HJ,HT,HM,HBK,HB⟩:=hrel;clear HM0 HBK0 HB0 HT0;by_cases cj:j<l2.length
   ·obtain⟨ad,e',hx⟩:=Kd.at_string (Kd.C_below H2.out HB.out) (j:Int) (by omega) (by omega);cases e'
    have hdr:l2.drop j=rdOf ByteArray.empty l2 (j:Int)::l2.drop (j+1):=by
     rw[List.drop_eq_getElem_cons cj];unfold rdOf;rw[Int.toNat_natCast,List.getD_eq_getElem?_getD,List.getElem?_eq_getElem cj];rfl
    have hxs:(rdOf ByteArray.empty l2 (j:Int)).size≤maxLen:=by
     unfold rdOf;rw[Int.toNat_natCast,List.getD_eq_getElem?_getD,List.getElem?_eq_getElem cj];exact HC.out.2.2.1 _ (List.getElem_mem cj)
    simp only[Int.toNat_natCast]at hx;have hT:=HT.out;rw[hdr,leaf2]at hT;have j0:((0:Int)≤(j:Int))=True:=eq_true (by omega);have j1:((j:Int)<(l2.length:Int))=True:=eq_true (by omega);have j2:decide ((j:Int)<(l2.length:Int))=true:=decide_eq_true (by omega);have CJ:=Aside0.mk cj;have HXS:=Aside0.mk hxs;have HTN:=Aside0.mk hT;have HOL:=Aside0.mk (show(l3.length+1)+O'.length<4294967296 by
     have h_:=congrArg List.length hT;rw[leaf2_len,List.length_append,List.length_replicate]at h_;have:=HTL.out;omega)
    clear cj hdr hxs hT HT;generalize rdOf ByteArray.empty l2 (j:Int)=x at*;go_wp2_with (first|(at_mapUpdate;refine MapS.wp_put _ rfl _ _ _ 75 rfl Tryz.underlying75 (w.heap.size+1) _ _ rfl HM.out (by have:=HOL.out;show _<2 ^ 63 - 1;omega) x _ HXS.out rfl rfl ?_;intro w3 hm3 hg3;have hk3:=blk_cell (blk_grown HBK.out hg3 (by simp)) 3;go_frame)|go_in);have HM3:=Aside0.mk hm3;have HBK3:=Aside0.mk (blk_grown HBK.out hg3 (by simp));have HB3:=Aside0.mk (HB.out.grown hg3 HB.out.size (fun k_ hk=>by cases hk;exact Nat.le_succ _));clear hm3 hg3 hk3 HM HBK HB hx;go_loopw [11,46] (fun _ v46 wx=> ∃ m:Nat,v46= .int .i64 (m:Int)∧Aside0 (m≤l3.length)∧Aside0 (MapS wx (w.heap.size+1) (List.replicate (m+1) x++O').length (List.replicate (m+1) x++O'))∧Aside0 (wx.heap[w.heap.size]? =some (.cells #[.int .i64 a0,.slice A1 l1.length c1,.slice (some ad) l2.length c2,.slice A3 l3.length c3,v4,.string a5,.bool a6] 43 (0,0)))∧Aside0 (Below w.heap.size w wx)) (fun _ v46 _=>l3.length - (intOf v46).toNat);(case atStart=>exact⟨0,rfl,⟨Nat.zero_le _⟩,⟨by simpa using HM3.out⟩,HBK3,HB3⟩);case round=>
     obtain⟨m,rfl,HJ2,HM,HBK,HB⟩:=hrel;clear HM3 HBK3 HB3;by_cases cm:m<l3.length
     ·obtain⟨ae,A0,c0,e',hx,hlr,hCr⟩:=at_L4 (Kd.C_below H3.out HB.out) (m:Int) (by omega) (by omega);cases e'
      have hlen:l2.length≤(rd_L4 l3 (m:Int)).length:=by
       unfold rd_L4;rw[Int.toNat_natCast,List.getD_eq_getElem?_getD,List.getElem?_eq_getElem cm];exact HC.out.2.2.2 _ (List.getElem_mem cm)
      obtain⟨af,e',q0,_⟩:=at_T46 hCr (j:Int) (by omega) (by have:=CJ.out;omega);cases e'
      simp only[Int.toNat_natCast]at hx q0;have m0:((0:Int)≤(m:Int))=True:=eq_true (by omega);have m1:((m:Int)<(l3.length:Int))=True:=eq_true (by omega);have m2:decide ((m:Int)<(l3.length:Int))=true:=decide_eq_true (by omega);have m3:(j<(rd_L4 l3 (m:Int)).length)=True:=eq_true (by have:=CJ.out;omega);have m4:((j:Int)<((rd_L4 l3 (m:Int)).length:Int))=True:=eq_true (by have:=CJ.out;omega);have CM:=Aside0.mk cm;clear cm hCr hlen hlr;generalize rd_L4 l3 (m:Int)=row at*;generalize rd_T46 row (j:Int)=tm at*;(have hz4: ∀ w_,(zeroValue 4).run Tryz.prog w_= .ok (.bool false) w_:=fun w_=>by kernel_rfl);go_wp2_with (first|(at_lookup;refine MapS.wp_get _ rfl _ _ 75 rfl Tryz.underlying75 (hz4 _) (w.heap.size+1) _ _ rfl HM.out x HXS.out rfl ?_)|go_in);intro V hV;obtain⟨cb,rfl⟩:=hV;have HRE:=Aside0.mk (show List.replicate (m+1+1) x++O'=x::(List.replicate (m+1) x++O')by rw[List.replicate_succ,List.cons_append]);have HNB:=Aside0.mk (show(List.replicate (m+1) x++O').length<maxLen by have:=HOL.out;have:=CM.out;show _<2 ^ 63 - 1;simp;omega);cases cb
      all_goals
       go_wp2_with (first|(at_mapUpdate;refine MapS.wp_put _ rfl _ _ _ 75 rfl Tryz.underlying75 (w.heap.size+1) _ _ rfl HM.out HNB.out x _ HXS.out rfl rfl ?_;intro w3 hm3 hg3;go_frame)|go_in)
       go_roundw
       case rel=>
        refine⟨m+1,by rw[wrap_nat1 (by have:=CM.out;have:=HOL.out;omega)],⟨by have:=CM.out;omega⟩,⟨?_⟩,⟨blk_grown HBK.out hg3 (by simp)⟩,⟨HB.out.grown hg3 HB.out.size (fun k_ hk=>by cases hk;exact Nat.le_succ _)⟩⟩
        rw[HRE.out]
        exact hm3
       case measure=>
        have:=CM.out
        have:=HOL.out
        rw[wrap_nat1 (by omega)]
        simp only[intOf,Int.toNat_natCast]
        omega
     have hm_:m=l3.length:=(by have:=HJ2.out;omega);have m2:decide ((m:Int)<(l3.length:Int))=false:=decide_eq_false (by omega);have m3:(m<l3.length)=False:=eq_false cm;have m4:((m:Int)<(l3.length:Int))=False:=eq_false (by omega);have HME:=Aside0.mk hm_;clear hm_ cm;go_wp2_with fail;go_roundw;case rel=>
      have hm:=HM.out;rw[HME.out]at hm;exact⟨j+1,List.replicate (l3.length+1) x++O',by rw[wrap_nat1 (by have:=CJ.out;have:=HL2.out;omega)],⟨by have:=CJ.out;omega⟩,HTN,⟨hm⟩,HBK,HB⟩
     case measure=>
      have:=CJ.out;have:=HL2.out;rw[wrap_nat1 (by omega)];simp only[intOf,Int.toNat_natCast];omega
   have hj:j=l2.length:=(by have:=HJ.out;omega);have j2:decide ((j:Int)<(l2.length:Int))=false:=decide_eq_false (by omega);have j3:(j<l2.length)=False:=eq_false cj;have j4:((j:Int)<(l2.length:Int))=False:=eq_false (by omega);have hT:=HT.out;rw[hj,List.drop_length]at hT;have HTT:=Aside0.mk (show O'=T from hT);clear hj cj hT;go_wp2_with fail;go_ret;have hm:=HM.out;rw[HTT.out,← HTE.out]at hm;exact⟨_,rfl,Nat.le_succ _,hm,HB.out⟩
set_option maxHeartbeats 8000000 in
set_option maxRecDepth 1000000 in
theorem scope_one.calls (a0:Int) (v1 v2 v3 v4:Value) (hv:v1.oneCell'=true∧v2.oneCell'=true∧v3.oneCell'=true∧v4.oneCell'=true) (a5:ByteArray) (a6:Bool) (b:Nat) (S:List ByteArray) (w:World) (hS:MapS w b S.length S) (hn:S.length<4294967296) (hs:a5.size≤maxLen):
 Calls Tryz.prog 28 #[.agg #[.int .i64 a0,v1,v2,v3,v4,.string a5,.bool a6],.map (some b)] w fun e w'=> ∃ g:Nat,e= .returned (.map (some g))∧w.heap.size≤g∧MapS w' g (oneL a0 a5 S).length (oneL a0 a5 S)∧Below w.heap.size w w':=by
 have HS:=Aside0.mk hS;have HN:=Aside0.mk hn;have HBL:=Aside0.mk hS.lt;have HSZ:=Aside0.mk hs;clear hS hn hs;have hmm:= @run_makeMap Tryz.prog;go_enter Tryz.func28,Tryz.ntmps28;have e1:((w.alloc (.cells #[.int .i64 a0,v1,v2,v3,v4,.string a5,.bool a6] 43)).alloc (.map #[] 0)).heap.size=w.heap.size+2:=(by simp);have HS1:=Aside0.mk ((HS.out.below (below_alloc (Below.refl _ _) (.cells #[.int .i64 a0,v1,v2,v3,v4,.string a5,.bool a6] 43))).below (below_alloc (Below.refl _ _) (.map #[] 0)));go_wp2_with (first|(at_range;refine MapS.wp_range _ rfl _ 75 rfl Tryz.underlying75 b _ S rfl HS1.out ?_;intro w0 cnt hc0 hrg0 hg0 hs0)|go_in);go_frame;rw[e1]at hrg0 hs0 ⊢;have HBK0:=Aside0.mk ((hg0.block w.heap.size (by simp;omega) (by simp)).trans (blk_alloc (heap_alloc_new w (.cells #[.int .i64 a0,v1,v2,v3,v4,.string a5,.bool a6] 43)) (.map #[] 0)));have HM0:=Aside0.mk ((MapS.made (w.alloc (.cells #[.int .i64 a0,v1,v2,v3,v4,.string a5,.bool a6] 43))).grown hg0 (by simp));have HB0:=Aside0.mk ((below_alloc (below_alloc (Below.refl w.heap.size w) (.cells #[.int .i64 a0,v1,v2,v3,v4,.string a5,.bool a6] 43)) (.map #[] 0)).grown hg0 (by simp;omega) (fun j hj=>by cases hj));clear hg0 HS1 HS;go_loopw [6,7] (fun _ _ wr=> ∃ (L O:List ByteArray) (n:Nat),RangeS wr b (w.heap.size+2) S.length S L n∧Aside0 (n+O.length≤S.length)∧Aside0 (MapS wr (w.heap.size+1) O.length O)∧Aside0 (∀ s,s ∈ S ↔ s ∈ O∨s ∈ L)∧Aside0 (wr.heap[w.heap.size]? =some (.cells #[.int .i64 a0,v1,v2,v3,v4,.string a5,.bool a6] 43 (0,0)))∧Aside0 (Below w.heap.size w wr)) (fun _ _ wr=>wr.rangeLeft b (w.heap.size+2));case atStart=>
  exact⟨S,[],cnt,hrg0,⟨by simpa using hc0⟩,⟨by simpa using HM0.out⟩,⟨fun s=>by simp⟩,HBK0,HB0⟩
 case round=>
  obtain⟨L,O,n,hrg,HC,HM,HI,HBK,HB⟩:=hrel;clear HBK0 HM0 HB0 hrg0 hc0;go_wp2_with (first|(at_next;refine RangeS.wp_next _ rfl _ rfl b (w.heap.size+2) _ S L n rfl hrg ?_ ?_)|go_in)
  ·intro hl0;have HI2:=Aside0.mk (show ∀ s,s ∈ S ↔ s ∈ O from fun s=>(HI.out s).trans ⟨fun h_=>h_.resolve_right (hl0 s),.inl⟩);have hk0:=blk_cell HBK.out 0;have hk5:=blk_cell HBK.out 5;clear hrg hl0 HI;by_cases c8:a0=8
   ·have c8b:(a0==8)=true:=beq_iff_eq.mpr c8;have C8:=Aside0.mk c8;clear c8;go_wp2_with (first|(at_mapUpdate;refine MapS.wp_put _ rfl _ _ _ 75 rfl Tryz.underlying75 (w.heap.size+1) O.length O rfl HM.out (by have:=HC.out;have:=HN.out;show O.length<2 ^ 63 - 1;omega) a5 _ HSZ.out rfl rfl ?_;intro w2 hm2 hg2;go_frame)|go_in);go_ret;refine⟨_,rfl,Nat.le_succ _,?_,HB.out.grown hg2 HB.out.size (fun j hj=>by cases hj;exact Nat.le_succ _)⟩;unfold oneL;rw[if_pos C8.out];exact(hm2.like (fun s=>by simp[HI2.out s])).mono (by have:=HC.out;simp;omega)
   have c8b:(a0==8)=false:=beq_eq_false_iff_ne.mpr c8;have C8:=Aside0.mk c8;clear c8;go_wp2;go_ret;refine⟨_,rfl,Nat.le_succ _,?_,HB.out⟩;unfold oneL;rw[if_neg C8.out];exact(HM.out.like (fun s=>(HI2.out s).symm)).mono (by have:=HC.out;omega)
  intro x V w1 cnt1 hV hx hxL hrg1 hlt hg1 hs1 hen;obtain⟨c,rfl⟩:=hV;have HM1:=Aside0.mk (HM.out.grown hg1 (by simp));have HBK1:=Aside0.mk (blk_grown HBK.out hg1 (by simp));have HB1:=Aside0.mk (HB.out.grown hg1 HB.out.size (fun j hj=>by cases hj;omega));have hk0:=blk_cell HBK1.out 0;have hk6:=blk_cell HBK1.out 6;have HX:=Aside0.mk hx;have HXL:=Aside0.mk hxL;have HR1:=Aside0.mk hrg1;have HR:=Aside0.mk hrg;have HLT:=Aside0.mk hlt;clear hg1 hx hxL hrg1 hrg hlt HM HBK HB;have FIN:=Aside0.mk (show ∀ (w2:World),MapS w2 (w.heap.size+1) (O.length+1) (x::O)→w1.grownBy w2 (some (w.heap.size+1))→RangeS w2 b (w.heap.size+2) S.length S (butB L x) cnt1∧Aside0 (cnt1+(x::O).length≤S.length)∧Aside0 (MapS w2 (w.heap.size+1) (x::O).length (x::O))∧Aside0 (∀ s,s ∈ S ↔ s ∈ x::O∨s ∈ butB L x)∧Aside0 (w2.heap[w.heap.size]? =some (.cells #[.int .i64 a0,v1,v2,v3,v4,.string a5,.bool a6] 43 (0,0)))∧Aside0 (Below w.heap.size w w2)from by
   intro w2 hm2 hg2;refine⟨HR1.out.grown hg2 (by have:=HBL.out;simp;omega) (by simp),⟨by have:=HC.out;have:=HLT.out;simp;omega⟩,⟨hm2⟩,⟨fun s=>?_⟩,⟨blk_grown HBK1.out hg2 (by simp)⟩,⟨HB1.out.grown hg2 HB1.out.size (fun j hj=>by cases hj;exact Nat.le_succ _)⟩⟩;rw[HI.out s,butB_iff,List.mem_cons];constructor
   ·rintro(h_|h_)
    ·exact .inl (.inr h_)
    by_cases e_:s=x
    ·exact .inl (.inl e_)
    exact .inr ⟨h_,e_⟩
   rintro((rfl|h_)|h_)
   ·exact .inr HXL.out
   ·exact .inl h_
   exact .inr h_.1)
  have MEAS:=Aside0.mk (show ∀ (w2:World),w1.grownBy w2 (some (w.heap.size+1))→w2.rangeLeft b (w.heap.size+2)<wr.rangeLeft b (w.heap.size+2)from by
   intro w2 hg2;rw[(HR1.out.grown hg2 (by have:=HBL.out;simp;omega) (by simp)).left_eq,HR.out.left_eq];exact HLT.out)
  clear HXL HBK1 HB1 HI HR HLT HR1;cases c with
  |false=>
   go_wp2_with (first|(at_mapUpdate;refine MapS.wp_put _ rfl _ _ _ 75 rfl Tryz.underlying75 (w.heap.size+1) O.length O rfl HM1.out (by have:=HC.out;have:=HN.out;show O.length<2 ^ 63 - 1;omega) x _ HX.out rfl rfl ?_;intro w2 hm2 hg2;go_frame)|go_in);go_roundw;(case rel=>exact⟨_,_,_,FIN.out _ hm2 hg2⟩);case measure=>exact MEAS.out _ hg2
  |true=>
   by_cases c9:a0=9
   ·have c9b:(a0==9)=true:=beq_iff_eq.mpr c9;clear c9;cases a6
    all_goals
     go_wp2_with (first|(at_mapUpdate;refine MapS.wp_put _ rfl _ _ _ 75 rfl Tryz.underlying75 (w.heap.size+1) O.length O rfl HM1.out (by have:=HC.out;have:=HN.out;show O.length<2 ^ 63 - 1;omega) x _ HX.out rfl rfl ?_;intro w2 hm2 hg2;go_frame)|go_in)
     go_roundw
     case rel=>exact⟨_,_,_,FIN.out _ hm2 hg2⟩
     case measure=>exact MEAS.out _ hg2
   have c9b:(a0==9)=false:=beq_eq_false_iff_ne.mpr c9;clear c9;go_wp2_with (first|(at_mapUpdate;refine MapS.wp_put _ rfl _ _ _ 75 rfl Tryz.underlying75 (w.heap.size+1) O.length O rfl HM1.out (by have:=HC.out;have:=HN.out;show O.length<2 ^ 63 - 1;omega) x _ HX.out rfl rfl ?_;intro w2 hm2 hg2;go_frame)|go_in);go_roundw;(case rel=>exact⟨_,_,_,FIN.out _ hm2 hg2⟩);case measure=>exact MEAS.out _ hg2
set_option maxHeartbeats 8000000 in
set_option maxRecDepth 1000000 in
theorem scope_both_string.calls (fid:Nat) (hfid:fid=53∨fid=54∨fid=55) (hF: ∀ (b1 b2 b3 b4:Bool) (w:World),Calls Tryz.prog fid #[.bool b1,.bool b2,.bool b3,.bool b4] w fun e w'=> ∃ r:Bool,e= .returned (.bool r)∧Below w.heap.size w w') (b1 b2:Nat) (S1 S2:List ByteArray) (w:World) (h1:MapS w b1 S1.length S1) (h2:MapS w b2 S2.length S2) (hn:S1.length+S2.length<4294967296):
 Calls Tryz.prog 52 #[.map (some b1),.map (some b2),.func (.func fid) #[] #[]] w fun e w'=> ∃ g:Nat,e= .returned (.map (some g))∧w.heap.size≤g∧MapS w' g (S1++S2).length (S1++S2)∧Below w.heap.size w w':=by
 have HF:=Aside0.mk hF;have HN:=Aside0.mk hn;have HL1:=Aside0.mk h1.lt;have HL2:=Aside0.mk h2.lt;have H1:=Aside0.mk (h1.below (below_alloc (Below.refl _ _) (.map #[] 0)));have H2:=Aside0.mk (h2.below (below_alloc (Below.refl _ _) (.map #[] 0)));clear hF hn h1 h2;have hmm:= @run_makeMap Tryz.prog;(have hz4: ∀ w_,(zeroValue 4).run Tryz.prog w_= .ok (.bool false) w_:=fun w_=>by kernel_rfl);have e1:(w.alloc (.map #[] 0)).heap.size=w.heap.size+1:=(by simp);rcases hfid with rfl|rfl|rfl;all_goals
  go_enter Tryz.func52,Tryz.ntmps52
  go_wp2_with (first|(at_range;refine MapS.wp_range _ rfl _ 74 rfl Tryz.underlying74 b1 _ S1 rfl H1.out ?_;intro w0 cnt hc0 hrg0 hg0 hs0)|go_in)
  go_frame
  rw[e1]at hrg0 hs0 ⊢
  have HM0:=Aside0.mk ((MapS.made w).grown hg0 (by simp))
  have H20:=Aside0.mk (H2.out.grown hg0 (by simp))
  have HB0:=Aside0.mk ((below_alloc (Below.refl w.heap.size w) (.map #[] 0)).grown hg0 (by simp) (fun j hj=>by cases hj))
  clear hg0 H1 H2 hmm e1
  go_loopw [8,9,10,11] (fun _ _ _ _ wr=> ∃ (L O:List ByteArray) (n:Nat),RangeS wr b1 (w.heap.size+1) S1.length S1 L n∧Aside0 (n+O.length≤S1.length)∧Aside0 (MapS wr w.heap.size O.length O)∧Aside0 (∀ s,s ∈ S1 ↔ s ∈ O∨s ∈ L)∧Aside0 (MapS wr b2 S2.length S2)∧Aside0 (Below w.heap.size w wr)) (fun _ _ _ _ wr=>wr.rangeLeft b1 (w.heap.size+1))
  case atStart=>exact⟨S1,[],cnt,hrg0,⟨by simpa using hc0⟩,⟨by simpa using HM0.out⟩,⟨fun s=>by simp⟩,H20,HB0⟩
  case round=>
   obtain⟨L,O,n,hrg,HC,HM,HI,H2,HB⟩:=hrel
   clear HM0 HB0 H20 hrg0 hc0
   go_wp2_with (first|(at_next;refine RangeS.wp_next _ rfl _ rfl b1 (w.heap.size+1) _ S1 L n rfl hrg ?_ ?_)|go_in)
   ·intro hl0;have HM1:=Aside0.mk ((HM.out.like (T:=S1) (fun s=>⟨fun h_=>(HI.out s).2 (.inl h_),fun h_=>((HI.out s).1 h_).resolve_right (hl0 s)⟩)).mono (show O.length≤S1.length by have:=HC.out;omega));have H11:=Aside0.mk hrg.map;have HRL:=Aside0.mk (show w.heap.size<wr.heap.size from HM.out.lt);clear hrg hl0 HI HM HC;go_wp2_with (first|(at_range;refine MapS.wp_range _ rfl _ 74 rfl Tryz.underlying74 b2 _ S2 rfl H2.out ?_;intro w0 cnt hc0 hrg0 hg0 hs0)|go_in);go_frame;have HM0:=Aside0.mk (HM1.out.grown hg0 (by simp));have H10:=Aside0.mk (H11.out.grown hg0 (by simp));have HB0:=Aside0.mk (HB.out.grown hg0 HB.out.size (fun j hj=>by cases hj));clear hg0 HM1 H11 HB H2 hs0;generalize wr.heap.size=r2 at*;go_loopw [12,13,14,15] (fun _ _ _ _ wx=> ∃ (L P:List ByteArray) (n:Nat),RangeS wx b2 r2 S2.length S2 L n∧Aside0 (n+P.length≤S2.length)∧Aside0 (MapS wx w.heap.size (P.length+S1.length) (P++S1))∧Aside0 (∀ s,s ∈ P++S1→s ∈ S1++S2)∧Aside0 (∀ s,s ∈ S2→s ∈ P++S1∨s ∈ L)∧Aside0 (∀ s,s ∈ L→s ∈ S2)∧Aside0 (MapS wx b1 S1.length S1)∧Aside0 (Below w.heap.size w wx)) (fun _ _ _ _ wx=>wx.rangeLeft b2 r2);(case atStart=>exact⟨S2,[],cnt,hrg0,⟨by simpa using hc0⟩,⟨by simpa using HM0.out⟩,⟨fun s h_=>by simpa using Or.inl h_⟩,⟨fun s h_=> .inr h_⟩,⟨fun s h_=>h_⟩,H10,HB0⟩);case round=>
     obtain⟨L,P,n,hrg,HC,HM,HI,HJ,HK,H1,HB⟩:=hrel;clear HM0 HB0 H10 hrg0 hc0;go_wp2_with (first|(at_next;refine RangeS.wp_next _ rfl _ rfl b2 r2 _ S2 L n rfl hrg ?_ ?_)|go_in)
     ·intro hl0;have HE:=Aside0.mk (show ∀ s,s ∈ P++S1 ↔ s ∈ S1++S2 from fun s=>⟨HI.out s,fun h_=>by
       rcases List.mem_append.1 h_ with h1|h2
       ·exact List.mem_append.2 (.inr h1)
       exact(HJ.out s h2).resolve_right (hl0 s)⟩)
      clear hrg hl0 HI HJ HK H1;go_wp2_with fail;go_ret;exact⟨_,rfl,Nat.le_refl _,(HM.out.like HE.out).mono (by have:=HC.out;simp;omega),HB.out⟩
     intro x V w1 cnt1 hV hx hxL hrg1 hlt hg1 hs1 hen;obtain⟨c,rfl⟩:=hV;have HM1:=Aside0.mk (HM.out.grown hg1 (by have:=HRL.out;simp;omega));have H11:=Aside0.mk (H1.out.grown hg1 (by have:=HL1.out;have:=HRL.out;simp;omega));have HB1:=Aside0.mk (HB.out.grown hg1 HB.out.size (fun j hj=>by cases hj;have:=HRL.out;omega));have HX:=Aside0.mk hx;have HXL:=Aside0.mk hxL;have HR1:=Aside0.mk hrg1;have HR:=Aside0.mk hrg;have HLT:=Aside0.mk hlt;clear hg1 hx hxL hrg1 hrg hlt HM H1 HB;go_wp2_with (first|(at_lookup;refine MapS.wp_has _ rfl _ _ 74 rfl Tryz.underlying74 (hz4 _) b1 _ S1 rfl H11.out x HX.out rfl ?_)|go_in);intro V2 hV2;obtain⟨c2,rfl⟩:=hV2;have HH:=Aside0.mk (show hasB S1 x=true ↔ x ∈ S1 from hasB_iff);have HR2: ∀ w2,Below w1.heap.size w1 w2→ ∀ w3,w2.grownBy w3 (some w.heap.size)→RangeS w3 b2 r2 S2.length S2 (butB L x) cnt1∧w3.rangeLeft b2 r2<wr.rangeLeft b2 r2:=by
      intro w2 hb2 w3 hg3;have q:=(HR1.out.below hb2).grown hg3 (by have:=HL2.out;simp;omega) (by have:=HRL.out;simp;omega);refine⟨q,?_⟩;rw[q.left_eq,HR.out.left_eq];exact HLT.out
     have HRA:=Aside0.mk HR2;clear HR2;cases hq:hasB S1 x
     ·have HNI:=Aside0.mk (show x ∉ S1 from fun h_=>by rw[HH.out.2 h_]at hq;cases hq);clear hq HH;go_wp2_with fail;refine(HF.out c2 c false true _).mono ?_;rintro e w2 ⟨rb,rfl,hb2⟩;have HM2:=Aside0.mk (HM1.out.below hb2);have H12:=Aside0.mk (H11.out.below hb2);have HB2:=Aside0.mk (below_then HB1.out HB1.out.size hb2);have FIN:=Aside0.mk (show ∀ (w3:World),MapS w3 w.heap.size (P.length+S1.length+1) (x::(P++S1))→w2.grownBy w3 (some w.heap.size)→RangeS w3 b2 r2 S2.length S2 (butB L x) cnt1∧Aside0 (cnt1+(x::P).length≤S2.length)∧Aside0 (MapS w3 w.heap.size ((x::P).length+S1.length) (x::P++S1))∧Aside0 (∀ s,s ∈ x::P++S1→s ∈ S1++S2)∧Aside0 (∀ s,s ∈ S2→s ∈ x::P++S1∨s ∈ butB L x)∧Aside0 (∀ s,s ∈ butB L x→s ∈ S2)∧Aside0 (MapS w3 b1 S1.length S1)∧Aside0 (Below w.heap.size w w3)from by
       intro w3 hm3 hg3;refine⟨(HRA.out _ hb2 _ hg3).1,⟨by have:=HC.out;have:=HLT.out;simp;omega⟩,⟨hm3.mono (by simp;omega)⟩,⟨fun s h_=>?_⟩,⟨fun s h_=>?_⟩,⟨fun s h_=>HK.out s (butB_iff.1 h_).1⟩,⟨H12.out.grown hg3 (by have:=HL1.out;simp;omega)⟩,⟨HB2.out.grown hg3 HB2.out.size (fun j hj=>by cases hj;exact Nat.le_refl _)⟩⟩
       ·rcases List.mem_cons.1 h_ with rfl|h_
        ·exact List.mem_append.2 (.inr (HK.out _ HXL.out))
        exact HI.out s h_
       by_cases e_:s=x
       ·exact .inl (List.mem_cons.2 (.inl e_))
       rcases HJ.out s h_ with h_|h_
       ·exact .inl (List.mem_cons.2 (.inr h_))
       exact .inr (butB_iff.2 ⟨h_,e_⟩))
      have MEAS:=Aside0.mk (show ∀ w3,w2.grownBy w3 (some w.heap.size)→w3.rangeLeft b2 r2<wr.rangeLeft b2 r2 from fun w3 hg3=>(HRA.out _ hb2 _ hg3).2);clear hb2 HXL HB2 HI HJ HK HR HLT HR1 HRA H12 HB1 H11 HM1 HNI;go_wp2_with (first|(at_mapUpdate;refine MapS.wp_put _ rfl _ _ _ 74 rfl Tryz.underlying74 w.heap.size (P.length+S1.length) (P++S1) rfl HM2.out (by have:=HC.out;have:=HN.out;show P.length+S1.length<2 ^ 63 - 1;omega) x _ HX.out rfl rfl ?_;intro w3 hm3 hg3;go_frame)|go_in);go_roundw;(case rel=>exact⟨_,_,_,FIN.out _ hm3 hg3⟩);case measure=>exact MEAS.out _ hg3
     have HIN:=Aside0.mk (HH.out.1 hq);clear hq HH;have FIN:=Aside0.mk (show RangeS w1 b2 r2 S2.length S2 (butB L x) cnt1∧Aside0 (cnt1+P.length≤S2.length)∧Aside0 (MapS w1 w.heap.size (P.length+S1.length) (P++S1))∧Aside0 (∀ s,s ∈ P++S1→s ∈ S1++S2)∧Aside0 (∀ s,s ∈ S2→s ∈ P++S1∨s ∈ butB L x)∧Aside0 (∀ s,s ∈ butB L x→s ∈ S2)∧Aside0 (MapS w1 b1 S1.length S1)∧Aside0 (Below w.heap.size w w1)from by
      refine⟨HR1.out,⟨by have:=HC.out;have:=HLT.out;omega⟩,HM1,HI,⟨fun s h_=>?_⟩,⟨fun s h_=>HK.out s (butB_iff.1 h_).1⟩,H11,HB1⟩;by_cases e_:s=x
      ·subst e_;exact .inl (List.mem_append.2 (.inr HIN.out))
      rcases HJ.out s h_ with h_|h_
      ·exact .inl h_
      exact .inr (butB_iff.2 ⟨h_,e_⟩))
     have MEAS:=Aside0.mk (show w1.rangeLeft b2 r2<wr.rangeLeft b2 r2 by rw[HR1.out.left_eq,HR.out.left_eq];exact HLT.out);clear HXL HI HJ HK HR HLT HR1 HRA HB1 H11 HM1 HIN;go_wp2_with fail;go_roundw;(case rel=>exact⟨_,_,_,FIN.out⟩);case measure=>exact MEAS.out
   intro x V w1 cnt1 hV hx hxL hrg1 hlt hg1 hs1 hen
   obtain⟨c,rfl⟩:=hV
   have HM1:=Aside0.mk (HM.out.grown hg1 (by simp))
   have H21:=Aside0.mk (H2.out.grown hg1 (by have:=HL2.out;simp;omega))
   have HB1:=Aside0.mk (HB.out.grown hg1 HB.out.size (fun j hj=>by cases hj;omega))
   have HX:=Aside0.mk hx
   have HXL:=Aside0.mk hxL
   have HR1:=Aside0.mk hrg1
   have HR:=Aside0.mk hrg
   have HLT:=Aside0.mk hlt
   clear hg1 hx hxL hrg1 hrg hlt HM H2 HB
   go_wp2_with (first|(at_lookup;refine MapS.wp_has _ rfl _ _ 74 rfl Tryz.underlying74 (hz4 _) b2 _ S2 rfl H21.out x HX.out rfl ?_)|go_in)
   intro V2 hV2
   obtain⟨c2,rfl⟩:=hV2
   go_wp2_with fail
   refine(HF.out c c2 true (hasB S2 x) _).mono ?_
   rintro e w2 ⟨rb,rfl,hb2⟩
   have HM2:=Aside0.mk (HM1.out.below hb2)
   have H22:=Aside0.mk (H21.out.below hb2)
   have HB2:=Aside0.mk (below_then HB1.out HB1.out.size hb2)
   have HR2:=Aside0.mk (HR1.out.below hb2)
   clear hb2 HM1 H21 HB1 HR1
   have FIN:=Aside0.mk (show ∀ (w3:World),MapS w3 w.heap.size (O.length+1) (x::O)→w2.grownBy w3 (some w.heap.size)→RangeS w3 b1 (w.heap.size+1) S1.length S1 (butB L x) cnt1∧Aside0 (cnt1+(x::O).length≤S1.length)∧Aside0 (MapS w3 w.heap.size (x::O).length (x::O))∧Aside0 (∀ s,s ∈ S1 ↔ s ∈ x::O∨s ∈ butB L x)∧Aside0 (MapS w3 b2 S2.length S2)∧Aside0 (Below w.heap.size w w3)from by
    intro w3 hm3 hg3;refine⟨HR2.out.grown hg3 (by have:=HL1.out;simp;omega) (by simp),⟨by have:=HC.out;have:=HLT.out;simp;omega⟩,⟨hm3⟩,⟨fun s=>?_⟩,⟨H22.out.grown hg3 (by have:=HL2.out;simp;omega)⟩,⟨HB2.out.grown hg3 HB2.out.size (fun j hj=>by cases hj;exact Nat.le_refl _)⟩⟩;rw[HI.out s,butB_iff,List.mem_cons];constructor
    ·rintro(h_|h_)
     ·exact .inl (.inr h_)
     by_cases e_:s=x
     ·exact .inl (.inl e_)
     exact .inr ⟨h_,e_⟩
    rintro((rfl|h_)|h_)
    ·exact .inr HXL.out
    ·exact .inl h_
    exact .inr h_.1)
   have MEAS:=Aside0.mk (show ∀ (w3:World),w2.grownBy w3 (some w.heap.size)→w3.rangeLeft b1 (w.heap.size+1)<wr.rangeLeft b1 (w.heap.size+1)from by
    intro w3 hg3;rw[(HR2.out.grown hg3 (by have:=HL1.out;simp;omega) (by simp)).left_eq,HR.out.left_eq];exact HLT.out)
   clear HXL HB2 HI HR HLT HR2 H22
   go_wp2_with (first|(at_mapUpdate;refine MapS.wp_put _ rfl _ _ _ 74 rfl Tryz.underlying74 w.heap.size O.length O rfl HM2.out (by have:=HC.out;have:=HN.out;show O.length<2 ^ 63 - 1;omega) x _ HX.out rfl rfl ?_;intro w3 hm3 hg3;go_frame)|go_in)
   go_roundw
   case rel=>exact⟨_,_,_,FIN.out _ hm3 hg3⟩
   case measure=>exact MEAS.out _ hg3
theorem scope_two_x.calls (fid:Nat) (hfid:fid=53∨fid=54∨fid=55) (b1 b2 b3 b4:Bool) (w:World):Calls Tryz.prog fid #[.bool b1,.bool b2,.bool b3,.bool b4] w fun e w'=> ∃ r:Bool,e= .returned (.bool r)∧Below w.heap.size w w':=by
 rcases hfid with rfl|rfl|rfl
 ·go_enter Tryz.func53,Tryz.ntmps53;cases b1
  all_goals
   go_wp2_with fail
   go_ret
   exact⟨_,rfl,Below.refl _ _⟩
 ·go_enter Tryz.func54,Tryz.ntmps54;cases b1
  all_goals
   go_wp2_with fail
   go_ret
   exact⟨_,rfl,Below.refl _ _⟩
 go_enter Tryz.func55,Tryz.ntmps55;cases b3
 all_goals
  go_wp2_with fail
  go_ret
  exact⟨_,rfl,Below.refl _ _⟩
set_option maxHeartbeats 8000000 in
set_option maxRecDepth 1000000 in
theorem scope_two.calls (a0:Int) (v1 v2 v3 v4:Value) (hv:v1.oneCell'=true∧v2.oneCell'=true∧v3.oneCell'=true∧v4.oneCell'=true) (a5:ByteArray) (a6:Bool) (b1 b2:Nat) (S1 S2:List ByteArray) (w:World) (h1:MapS w b1 S1.length S1) (h2:MapS w b2 S2.length S2) (hn:S1.length+S2.length<4294967296):
 Calls Tryz.prog 29 #[.agg #[.int .i64 a0,v1,v2,v3,v4,.string a5,.bool a6],.map (some b1),.map (some b2)] w fun e w'=> ∃ g:Nat,e= .returned (.map (some g))∧MapS w' g (twoL a0 S1 S2).length (twoL a0 S1 S2)∧Below w.heap.size w w':=by
 have hb:=below_alloc (Below.refl w.heap.size w) (.cells #[.int .i64 a0,v1,v2,v3,v4,.string a5,.bool a6] 43);have HB:=Aside0.mk hb;have H1:=Aside0.mk (h1.below hb);have H2:=Aside0.mk (h2.below hb);have HN:=Aside0.mk hn;have HBK0:=blk_cell (heap_alloc_new w (.cells #[.int .i64 a0,v1,v2,v3,v4,.string a5,.bool a6] 43)) 0;clear h1 h2 hn hb;go_enter Tryz.func29,Tryz.ntmps29;by_cases c3:a0=3
 ·subst c3;go_wp2_with fail;refine(scope_both_string.calls 53 (.inl rfl) (fun b1 b2 b3 b4 w=>scope_two_x.calls 53 (.inl rfl) b1 b2 b3 b4 w) b1 b2 S1 S2 _ H1.out H2.out HN.out).mono ?_;rintro e w2 ⟨g,rfl,_,hm,hb⟩;have HM:=Aside0.mk hm;have HB2:=Aside0.mk (below_then HB.out HB.out.size hb);clear hm hb;go_wp2_with fail;go_ret;exact⟨g,rfl,HM.out,HB2.out⟩
 by_cases c4:a0=4
 ·subst c4;go_wp2_with fail;refine(scope_both_string.calls 54 (.inr (.inl rfl)) (fun b1 b2 b3 b4 w=>scope_two_x.calls 54 (.inr (.inl rfl)) b1 b2 b3 b4 w) b1 b2 S1 S2 _ H1.out H2.out HN.out).mono ?_;rintro e w2 ⟨g,rfl,_,hm,hb⟩;have HM:=Aside0.mk hm;have HB2:=Aside0.mk (below_then HB.out HB.out.size hb);clear hm hb;go_wp2_with fail;go_ret;exact⟨g,rfl,HM.out,HB2.out⟩
 by_cases c5:a0=5
 ·subst c5;go_wp2_with fail;refine(scope_both_string.calls 55 (.inr (.inr rfl)) (fun b1 b2 b3 b4 w=>scope_two_x.calls 55 (.inr (.inr rfl)) b1 b2 b3 b4 w) b1 b2 S1 S2 _ H1.out H2.out HN.out).mono ?_;rintro e w2 ⟨g,rfl,_,hm,hb⟩;have HM:=Aside0.mk hm;have HB2:=Aside0.mk (below_then HB.out HB.out.size hb);clear hm hb;go_wp2_with fail;go_ret;exact⟨g,rfl,HM.out,HB2.out⟩
 have e3:(a0==3)=false:=beq_eq_false_iff_ne.mpr c3;have e4:(a0==4)=false:=beq_eq_false_iff_ne.mpr c4;have e5:(a0==5)=false:=beq_eq_false_iff_ne.mpr c5;have HT:=Aside0.mk (show twoL a0 S1 S2=S1 by unfold twoL;rw[if_neg (by simp[c3,c4,c5])]);clear c3 c4 c5;go_wp2_with fail;go_ret;exact⟨b1,rfl,by rw[HT.out];exact H1.out,HB.out⟩
end Go.Proofs.YtcfoebkbahpnaaaGreat.Hd
