import Derived.Test.YtcfoebkbahpnaaaGreatZFzc
import Derived.Test.YtcfoebkbahpnaaaGreatZLs
set_option linter.unusedSectionVars false
set_option linter.unusedVariables false
set_option linter.unusedSimpArgs false
namespace Go.Proofs.YtcfoebkbahpnaaaGreat.Hd
open Go.RowKit Go.Proofs.YtcfoebkbahpnaaaGreatW.PrintWords Go.Proofs.YtcfoebkbahpnaaaGreatW.PrintLast
open Ab (DV AV Dat OwnA OwnS Pres Fresh AR ORep FunOK Ent EnvOK Enters RowsR slR Who Ro RW)
/-! what is said of print.text, as a call with typed rows -/
theorem vp (k:Nat):EnvOK Ab.G.P (Ab.E k (Ab.Hs k) 34):=Ab.v34 k
theorem vpT (k:Nat):Ab.E k (Ab.Hs k) 34 17=Ab.sp17 k (Ab.Hs k):=by kernel_rfl
section
variable (k:Nat) (a0:Int) (A1:Option Addr) (c1:Nat) (l1:List S100) (A2:Option Addr) (c2:Nat) (l2:List ByteArray) (A3:Option Addr) (c3:Nat) (l3:List (List S46)) (A4:Option Addr) (c4:Nat) (l4:List S98) (a5:ByteArray) (a6:Bool) (A5:Option Addr) (c5:Nat) (l5:List ByteArray)
def print_text.f (k : Nat) (a0 : Int) (l1 : List S100) (l2 : List ByteArray) (l3 : List (List S46)) (l4 : List S98) (a5 : ByteArray) (a6 : Bool) (l5 : List ByteArray) : Option ByteArray :=
  if (Ab.Fuel k ∧ 1000 < k ∧ (⟨a0, l1, ⟨l2, l3⟩, l4, a5, a6⟩ : Ab.OpS).lt k) ∧ Ab.opOK ⟨a0, l1, ⟨l2, l3⟩, l4, a5, a6⟩ = true ∧ (l5.length : Int) = Ab.opNeeds a0 ∧ (∀ x ∈ Ab.TB l5, x ≠ []) ∧ Ab.lsz (Ab.TB l5) ≤ 100000000000 then some (ofL (Ab.opT ⟨a0, l1, ⟨l2, l3⟩, l4, a5, a6⟩ (Ab.TB l5))) else none
theorem print_text.calls (r:ByteArray) (w:World) (hr1:Kd.C k100 w A1 l1.length l1) (hc1:l1.length≤c1) (hr2:Kd.C Kd.string w A2 l2.length l2) (hc2:l2.length≤c2) (hr3:Kd.C (Kd.slice 46 k46) w A3 l3.length l3) (hc3:l3.length≤c3) (hr4:Kd.C k98 w A4 l4.length l4) (hc4:l4.length≤c4) (hr5:Kd.C Kd.string w A5 l5.length l5) (hc5:l5.length≤c5) (h:print_text.f k a0 l1 l2 l3 l4 a5 a6 l5=some r):
 Calls Tryz.prog 17 #[.agg #[.int .i64 a0,.slice A1 l1.length c1,.slice A2 l2.length c2,.slice A3 l3.length c3,.slice A4 l4.length c4,.string a5,.bool a6],.slice A5 l5.length c5] w fun e w'=>e= .returned (.string r)∧Below w.heap.size w w':=by
 unfold print_text.f at h;split at h
 ·rename_i hk;obtain rfl:=Option.some.inj h;have hg:=Ab.optext_g (o:=⟨a0,l1,⟨l2,l3⟩,l4,a5,a6⟩) (Ab.opF_of hk.2.1) hk.1.1 hk.1.2.1 hk.1.2.2 (Ab.TB l5) (by rw[show(Ab.TB l5).length=l5.length by simp[Ab.TB]];exact hk.2.2.1) hk.2.2.2.1 hk.2.2.2.2 (fun y=>some (Ab.S y,[]));rw[TB_ofL]at hg;refine(calls_of (f:=17) (xs:= [.ag (Ab.eOp ⟨a0,l1,⟨l2,l3⟩,l4,a5,a6⟩),.sl false 1 (Ab.srow l5)]) (q:=(Ab.S (ofL (Ab.opT ⟨a0,l1,⟨l2,l3⟩,l4,a5,a6⟩ (Ab.TB l5))),[])) (vp k) ((congrFun (congrFun (congrFun (vpT k) _) _) _).trans hg) (fun x hx=>by simp only[List.mem_cons,List.not_mem_nil,or_false]at hx;rcases hx with rfl|rfl<;>rfl) (.cons (op_D0 a0 A1 c1 l1 A2 c2 l2 A3 c3 l3 A4 c4 l4 a5 a6 hr1 hc1 hr2 hc2 hr3 hc3 hr4 hc4) (.cons (strs_D hc5 hr5) .nil))).mono ?_;rintro e w' ⟨v,D,rfl,hb,hd⟩;exact⟨by rw[dat_v hd],hb⟩
 cases h
end
def codeTGo (k : Nat) : List (S43) → List ByteArray → Option (List ByteArray)
  | [], l => some l
  | o :: r, l => (scope_Needs.f k o.f0 o.f1 o.f2.f0 o.f2.f1 o.f3 o.f4 o.f5).bind fun n =>
    if n < 0 ∨ (l.length : Int) < n then none else
    (print_text.f k o.f0 o.f1 o.f2.f0 o.f2.f1 o.f3 o.f4 o.f5 (l.drop (l.length - n.toNat))).bind fun s =>
      codeTGo k r (l.take (l.length - n.toNat) ++ [s])
def print_code.f (k : Nat) (l0 : List (S43)) : Option (ByteArray) :=
  if l0.length ≤ 128 then (codeTGo k l0 []).bind fun l => (if 0 < l.length then some (rdOf ByteArray.empty l 0) else none) else none
set_option maxHeartbeats 8000000 in
set_option maxRecDepth 1000000 in
theorem print_code.calls (k:Nat) (A0:Option Addr) (c0:Nat) (l0:List (S43)) (r:ByteArray) (w:World) (hr0:Kd.C k43 w A0 l0.length l0) (hc0:l0.length≤c0) (h:print_code.f k l0=some r):
 Calls Tryz.prog 10 #[.slice A0 l0.length c0] w fun e w'=>e= .returned (.string r)∧Below w.heap.size w w':=by
 unfold print_code.f at h;by_cases c128:l0.length≤128;case neg=>rw[if_neg c128]at h;cases h
 rw[if_pos c128]at h;obtain⟨LL,hgo,h3⟩:=Option.bind_eq_some_iff.1 h;by_cases cL:0<LL.length;case neg=>rw[if_neg cL]at h3;cases h3
 rw[if_pos cL]at h3;obtain rfl:=Option.some.inj h3;have HR:=Aside0.mk hr0;have HGO:=Aside0.mk hgo;have C128:=Aside0.mk c128;have CL:=Aside0.mk cL;have hn0:=Kd.R_nil Kd.string 9 w w.heap.size (fun _=>True);have HN0:=Aside0.mk hn0;clear hn0 hgo c128 cL h h3 hr0;go_enter Tryz.func10,Tryz.ntmps10;go_wp2_with fail;go_loopw [3,9] (fun v3 v9 wr=> ∃ (i:Nat) (L:List ByteArray),v9= .int .i64 (i:Int)∧Aside0 (i≤l0.length)∧Aside0 (codeTGo k (l0.drop i) L=some LL)∧Aside0 (L.length≤i)∧Aside0 (Kd.R Kd.string 9 wr w.heap.size (fun _=>True) v3 L)∧Aside0 (Below w.heap.size w wr)) (fun _ v9 _=>l0.length - (intOf v9).toNat);(case atStart=>exact⟨0,[],rfl,⟨Nat.zero_le _⟩,HGO,⟨Nat.zero_le _⟩,HN0,⟨Below.refl _ _⟩⟩);case round=>
  obtain⟨i,L,rfl,HI,HG,HL,HO,HB⟩:=hrel;clear HN0 HGO;obtain⟨A5,c5,e5,hl5,hC5⟩:=Kd.R_reads HO.out;subst e5;have HLC:=Aside0.mk hl5;have HC5:=Aside0.mk hC5;clear hl5 hC5;by_cases ci:i<l0.length
  ·obtain⟨o,ho,hd⟩: ∃ o,rd_T43 l0 (i:Int)=o∧l0.drop i=o::l0.drop (i+1):=by
    refine⟨l0[i],?_,List.drop_eq_getElem_cons ci⟩;unfold rd_T43;rw[Int.toNat_natCast,List.getD_eq_getElem?_getD,List.getElem?_eq_getElem ci];rfl
   have hl:=HG.out;rw[hd,codeTGo]at hl;obtain⟨n,hn,hl1⟩:=Option.bind_eq_some_iff.1 hl;by_cases cn:n<0∨(L.length:Int)<n;case pos=>rw[if_pos cn]at hl1;cases hl1
   rw[if_neg cn]at hl1;obtain⟨s,hs,hl2⟩:=Option.bind_eq_some_iff.1 hl1;obtain⟨N,rfl⟩: ∃ N:Nat,n=(N:Int):=⟨n.toNat,by omega⟩;rw[Int.toNat_natCast]at hs hl2;have hNL:N≤L.length:=(by omega);have HN:=Aside0.mk hn;have HS:=Aside0.mk hs;have HG2:=Aside0.mk hl2;have HNL:=Aside0.mk hNL;obtain⟨ad,A1,c1,A2,c2,A3,c3,A4,c4,e,q0,q1,q2,q3,q4,q5,q6,qa,qb,qc,qd,qe,qf,qg,qh⟩:=at_T43 (Kd.C_below HR.out HB.out) (i:Int) (by omega) (by omega);rw[ho]at q0 q1 q2 q3 q4 q5 q6 qa qb qc qd qe qf qg qh;simp only[Int.toNat_natCast]at q0 q1 q2 q3 q4 q5 q6;cases e
   have Q1:=Aside0.mk qb;have Q2:=Aside0.mk qd;have Q3:=Aside0.mk qf;have Q4:=Aside0.mk qh;have P1:=Aside0.mk qa;have P2:=Aside0.mk qc;have P3:=Aside0.mk qe;have P4:=Aside0.mk qg;have i0:((0:Int)≤(i:Int))=True:=eq_true (by omega);have i1:((i:Int)<(l0.length:Int))=True:=eq_true (by omega);have i2:decide ((i:Int)<(l0.length:Int))=true:=decide_eq_true (by omega);have CI:=Aside0.mk ci;clear hl hl1 hl2 hn hs hd ho cn hNL ci HG qa qb qc qd qe qf qg qh;go_wp2_with fail;clear q0 q1 q2 q3 q4 q5 q6;refine(scope_Needs.calls k o.f0 A1 c1 o.f1 A2 c2 o.f2.f0 A3 c3 o.f2.f1 A4 c4 o.f3 o.f4 o.f5 (N:Int) _ (Kd.C_alloc Q1.out _) P1.out (Kd.C_alloc Q2.out _) P2.out (Kd.C_alloc Q3.out _) P3.out (Kd.C_alloc Q4.out _) P4.out HN.out).mono ?_;rintro e w2 ⟨rfl,hb2⟩;have HBK:=Aside0.mk (blk_below (heap_alloc_new wr (.cells #[.int .i64 o.f0,.slice A1 o.f1.length c1,.slice A2 o.f2.f0.length c2,.slice A3 o.f2.f1.length c3,.slice A4 o.f3.length c4,.string o.f4,.bool o.f5] 43)) hb2);have HB2:=Aside0.mk (below_then (below_alloc HB.out (.cells #[.int .i64 o.f0,.slice A1 o.f1.length c1,.slice A2 o.f2.f0.length c2,.slice A3 o.f2.f1.length c3,.slice A4 o.f3.length c4,.string o.f4,.bool o.f5] 43)) (below_alloc HB.out _).size hb2);have HO2:=Aside0.mk (Kd.R_below (Kd.R_alloc HO.out (.cells #[.int .i64 o.f0,.slice A1 o.f1.length c1,.slice A2 o.f2.f0.length c2,.slice A3 o.f2.f1.length c3,.slice A4 o.f3.length c4,.string o.f4,.bool o.f5] 43)) hb2);have Q1a:=Aside0.mk (Kd.C_below (Kd.C_alloc Q1.out (.cells #[.int .i64 o.f0,.slice A1 o.f1.length c1,.slice A2 o.f2.f0.length c2,.slice A3 o.f2.f1.length c3,.slice A4 o.f3.length c4,.string o.f4,.bool o.f5] 43)) hb2);have Q2a:=Aside0.mk (Kd.C_below (Kd.C_alloc Q2.out (.cells #[.int .i64 o.f0,.slice A1 o.f1.length c1,.slice A2 o.f2.f0.length c2,.slice A3 o.f2.f1.length c3,.slice A4 o.f3.length c4,.string o.f4,.bool o.f5] 43)) hb2);have Q3a:=Aside0.mk (Kd.C_below (Kd.C_alloc Q3.out (.cells #[.int .i64 o.f0,.slice A1 o.f1.length c1,.slice A2 o.f2.f0.length c2,.slice A3 o.f2.f1.length c3,.slice A4 o.f3.length c4,.string o.f4,.bool o.f5] 43)) hb2);have Q4a:=Aside0.mk (Kd.C_below (Kd.C_alloc Q4.out (.cells #[.int .i64 o.f0,.slice A1 o.f1.length c1,.slice A2 o.f2.f0.length c2,.slice A3 o.f2.f1.length c3,.slice A4 o.f3.length c4,.string o.f4,.bool o.f5] 43)) hb2);clear hb2 HN Q1 Q2 Q3 Q4;have hbig:L.length<9223372036854775807:=(by have:=HL.out;have:=C128.out;have:=CI.out;omega);have hsub:=sub_nat HNL.out hbig;have hsub2:IntKind.i64.wrap ((L.length:Int) - (N:Int))=((L.length - N:Nat):Int):=(by rw[i64_w];exact hsub);have hD:=Kd.C_drop (Kd.R_reads' HO2.out).2.2 (Nat.sub_le L.length N) HLC.out;rw[List.length_drop]at hD;have hN':L.length - (L.length - N)=N:=(by have:=HNL.out;omega);rw[hN']at hD;simp only[show Kd.string.sz=1 from rfl,Nat.mul_one]at hD;have HT:=Aside0.mk (Kd.R_take HO2.out (Nat.sub_le L.length N));have hML:L.length - N≤L.length:=Nat.sub_le _ _;generalize L.length - N=M at*;have d0:(0:Int)≤(M:Int):=Int.natCast_nonneg _;have d1:(M:Int)≤(L.length:Int):=(by omega);have d2:(M:Int)≤(c5:Int):=(by have:=HLC.out;omega);have hown:(Value.slice A5 M c5).ownBlock=(Value.slice A5 L.length c5).ownBlock:=by cases A5<;>rfl
   (have hne: ∀ b:Nat,some b=(Value.slice A5 M c5).ownBlock→b<wr.heap.size:=fun b hb=>(Kd.R_lt HO.out) b (hown ▸ hb.symm));have HNE:=Aside0.mk (show some wr.heap.size≠ (Value.slice A5 M c5).ownBlock from fun e_=>Nat.lt_irrefl _ (hne _ e_));clear hown hne hML hbig HO HO2;have HCALL:=Aside0.mk (show ∀ (A6:Option Addr) (c6:Nat) (W:World),Below w2.heap.size w2 W→Kd.C Kd.string W A6 N (L.drop M)→N≤c6→Calls Tryz.prog 17 #[.agg #[.int .i64 o.f0,.slice A1 o.f1.length c1,.slice A2 o.f2.f0.length c2,.slice A3 o.f2.f1.length c3,.slice A4 o.f3.length c4,.string o.f4,.bool o.f5],.slice A6 N c6] W fun e w'=>e= .returned (.string s)∧Below W.heap.size W w' from fun A6 c6 W hb hC hc=>by
    have hln:(L.drop M).length=N:=(by rw[List.length_drop];exact hN');have h_:=print_text.calls k o.f0 A1 c1 o.f1 A2 c2 o.f2.f0 A3 c3 o.f2.f1 A4 c4 o.f3 o.f4 o.f5 A6 c6 (L.drop M) s W (Kd.C_below Q1a.out hb) P1.out (Kd.C_below Q2a.out hb) P2.out (Kd.C_below Q3a.out hb) P3.out (Kd.C_below Q4a.out hb) P4.out (by rw[hln];exact hC) (by rw[hln];exact hc) HS.out;rw[hln]at h_;exact h_)
   have hk0:=blk_cell HBK.out 0;have hk1:=blk_cell HBK.out 1;have hk2:=blk_cell HBK.out 2;have hk3:=blk_cell HBK.out 3;have hk4:=blk_cell HBK.out 4;have hk5:=blk_cell HBK.out 5;have hk6:=blk_cell HBK.out 6;by_cases hcm:c5=M;case' pos=>
    have hcm1:(c5=M)=True:=eq_true hcm
    rw[if_pos hcm]at hD
   case' neg=>
    have hcm1:(c5=M)=False:=eq_false hcm
    rw[if_neg hcm]at hD
   all_goals
    have HD:=Aside0.mk hD
    clear hD hcm
    go_upto_region 6 with (fail)
    go_region_held3 (fun w'=>w'.cell? ⟨wr.heap.size,0,none⟩=some (.int .i64 o.f0)∧w'.cell? ⟨wr.heap.size,1,none⟩=some (.slice A1 o.f1.length c1)∧w'.cell? ⟨wr.heap.size,2,none⟩=some (.slice A2 o.f2.f0.length c2)∧w'.cell? ⟨wr.heap.size,3,none⟩=some (.slice A3 o.f2.f1.length c3)∧w'.cell? ⟨wr.heap.size,4,none⟩=some (.slice A4 o.f3.length c4)∧w'.cell? ⟨wr.heap.size,5,none⟩=some (.string o.f4)∧w'.cell? ⟨wr.heap.size,6,none⟩=some (.bool o.f5))
     (first|exact⟨by simpa using hk0,by simpa using hk1,by simpa using hk2,by simpa using hk3,by simpa using hk4,by simpa using hk5,by simpa using hk6⟩|exact⟨blk_cell HBX.out 0,blk_cell HBX.out 1,blk_cell HBX.out 2,blk_cell HBX.out 3,blk_cell HBX.out 4,blk_cell HBX.out 5,blk_cell HBX.out 6⟩|exact⟨blk_cell (blk_alloc HBX.out _) 0,blk_cell (blk_alloc HBX.out _) 1,blk_cell (blk_alloc HBX.out _) 2,blk_cell (blk_alloc HBX.out _) 3,blk_cell (blk_alloc HBX.out _) 4,blk_cell (blk_alloc HBX.out _) 5,blk_cell (blk_alloc HBX.out _) 6⟩|exact⟨blk_cell HBY.out 0,blk_cell HBY.out 1,blk_cell HBY.out 2,blk_cell HBY.out 3,blk_cell HBY.out 4,blk_cell HBY.out 5,blk_cell HBY.out 6⟩)
     (first|(go_at_call 17;(with_reducible refine(HCALL.out _ _ _ (below_drew (Below.refl _ _)) ?aC ?aL).mono ?_);(case aC=>exact Kd.C_below HD.out (below_drew (Below.refl _ _)));(case aL=>have:=HLC.out;omega);rintro e w5 ⟨rfl,hb⟩;have HBX:=Aside0.mk (blk_below HBK.out ((below_drew (Below.refl _ _)).trans hb));have HTX:=Aside0.mk (Kd.R_below (Kd.R_drew HT.out) hb);have HB5:=Aside0.mk (below_then (below_drew HB2.out) (below_drew HB2.out).size hb))|(refine Kd.R_append_step Kd.string (w0:=w) w.heap.size (by rfl) (.tmp 20) (.tmp 26) 37 9 (.string ⟨#[]⟩) 16 rfl Tryz.underlying37 info9 rfl (by decide) (by decide) (.slice A5 M c5) (L.take M) s _ (fun _=>True) (fun _=>False) rfl rfl rfl (fun _ hk=>hk.elim) (fun _ _=>trivial) HTX.out HB5.out HB5.out.size ?aL ?_;(case aL=>rw[List.length_take];have:=HL.out;have:=C128.out;have:=HI.out;omega);intro v1 w6 ho hb hg hat;have HBY:=Aside0.mk (blk_grown HBX.out hg HNE.out)))
    have HO5:=Aside0.mk ho
    have HB6:=Aside0.mk hb
    clear ho hb hg hat
    go_wp2_with fail
    go_roundw
    case rel=>exact⟨i+1,_,by rw[wrap_nat1 (by have:=CI.out;have:=C128.out;omega)],⟨by have:=CI.out;omega⟩,HG2,⟨by rw[List.length_append,List.length_take];have:=HL.out;simp;omega⟩,HO5,HB6⟩
    case measure=>
     have:=CI.out
     have:=C128.out
     rw[wrap_nat1 (by omega)]
     simp only[intOf,Int.toNat_natCast]
     omega
  have hi:i=l0.length:=(by have:=HI.out;omega);have i2:decide ((i:Int)<(l0.length:Int))=false:=decide_eq_false (by omega);have i3:(i<l0.length)=False:=eq_false ci;have i4:((i:Int)<(l0.length:Int))=False:=eq_false (by omega);have hg:=HG.out;rw[hi,List.drop_length,codeTGo]at hg;obtain rfl:=Option.some.inj hg;obtain⟨ad,e,hx⟩:=Kd.at_string HC5.out (0:Int) (by omega) (by have:=CL.out;omega);cases e
  have hx0:wr.cell? ad=some (.string (rdOf ByteArray.empty L 0)):=by
   have h0:ad.add 0=ad:=(by simp[Addr.add]);rw[← h0];exact hx
  clear hx;have l1:((0:Int)<(L.length:Int))=True:=eq_true (by have:=CL.out;omega);have l2:(0<L.length)=True:=eq_true CL.out;clear hg hi ci HG;go_wp2_with fail;go_ret;exact⟨rfl,HB.out⟩
/-! what print.code comes to, in plain -/
theorem codeGo_some {n:Nat} (hn:Ab.Fuel n) (hn2:1000<n): ∀ (r:List Ab.OpS) (l:List (List UInt8)),(∀ o ∈ r,o.lt n)→Ab.okRunP l.length r→Ab.lsz l+50000000*r.length≤90000000000→(∀ x ∈ l,x≠ [])→codeTGo n r (l.map ofL)=some ((Ab.codeP r l).map ofL)
 | [],l,_,_,_,_=>rfl
 |o::r,l,hb,hc,hs,hne=>by
  obtain⟨hok,N,hN,hle,h2,hd,hc2,he,hz,hz2⟩:=Ab.code_step hc;simp only[List.length_cons]at hs;simp only[codeTGo];rw[show scope_Needs.f n o.f0 o.f1 o.f2.f0 o.f2.f1 o.f3 o.f4 o.f5=some (Ab.opNeeds o.f0)from rfl,Option.bind_some,hN,List.length_map,Int.toNat_natCast,← List.map_drop,← List.map_take,if_neg (by omega)];have ht:print_text.f n o.f0 o.f1 o.f2.f0 o.f2.f1 o.f3 o.f4 o.f5 ((l.drop (l.length - N)).map ofL)=some (ofL (Ab.opT o (l.drop (l.length - N)))):=by
   unfold print_text.f;rw[ofL_TB];exact if_pos ⟨⟨hn,hn2,hb o (List.mem_cons_self ..)⟩,hok,by rw[List.length_map,hd,hN],fun x hx=>hne x (List.mem_of_mem_drop hx),by omega⟩
  rw[ht,Option.bind_some,he];have:=codeGo_some hn hn2 r _ (fun q hq=>hb q (List.mem_cons_of_mem _ hq)) hc2 (by omega) (Ab.code_ne hne);rw[List.map_append]at this;exact this
theorem code_some {n:Nat} (hn:Ab.Fuel n) (hn2:1000<n) (c:List Ab.OpS) (hb: ∀ o ∈ c,o.lt n) (hl:c.length≤128) (hr:Ab.okRunP 0 c):print_code.f n c=some (ofL (Ab.codeT c)):=by
 unfold print_code.f;have hg:=codeGo_some hn hn2 c [] hb hr (by simp[Ab.lsz];omega) (fun x hx=>by cases hx);have h1:=Ab.code_one c [] hr;rw[if_pos hl,show([]:List ByteArray)=([]:List (List UInt8)).map ofL from rfl,hg,Option.bind_some,if_pos (by rw[List.length_map];omega)];unfold Ab.codeT;match hq:Ab.codeP c [],h1 with
 | [X],_=>rfl
open Ab in
/-- print.code -/
theorem h10 (n:Nat):Ent G.P 10 (sp10 n (Hs n)):=by
 intro args obs K r h;unfold sp10 at h;obtain⟨a,a2,rfl,h1⟩:=hdL_inv h;obtain⟨l,rfl,h2⟩:=lA_inv h1;obtain⟨rfl,h5⟩:=endL_inv h2;obtain⟨rfl,h6⟩:=endL_inv h5;clear h h1 h2 h5;unfold print_code.g at h6;split at h6
 ·rename_i c hx;split at h6
  ·rename_i hc;(have hg: ∀ K',print_code.g n l K'=K' (ofL (codeT c)):=fun K'=>by unfold print_code.g;rw[hx];simp only[if_pos hc]);refine⟨(S (ofL (codeT c)),[]),fun K'=>hg (fun y0=>K' (S y0,[])),⟨Tryz.f10,by kernel_rfl,by kernel_rfl,by kernel_rfl⟩,funOK_of (xs:= [.sl false 7 l]) (Ret.v rfl) fun D w vs hv=>?_⟩;obtain⟨u,rfl,hu⟩:=hv.one;have hl:c.length<4611686018427387904:=(by have:=hc.2.1;omega);obtain⟨A,cp,rfl,hl,hC⟩:=row_of (d:=k43) rfl rOp_K (RowsR.and (unRows_of unOp_of hx) fun o ho=>OpSz.of (hc.1.2.2 o ho) hc.1.1) hl hu;exact print_code.calls n A cp c _ w hC hl (code_some hc.1.1 hc.1.2.1 c hc.1.2.2 hc.2.1 ((okRun_iff c 0).1 hc.2.2))
  cases h6
 cases h6
end Go.Proofs.YtcfoebkbahpnaaaGreat.Hd

/- What formula.Parse comes to on a formula's words. -/
set_option linter.unusedVariables false
set_option linter.unusedSimpArgs false
namespace Go.Proofs.YtcfoebkbahpnaaaGreat.Ab
open Go Go.Proofs.YtcfoebkbahpnaaaGreat

theorem sgn_inj {k k':Int} (h:6≤k∧k≤17) (h':6≤k'∧k'≤17) (e:sgnT k=sgnT k'):k=k':=by
 have key: ∀ a b:Fin 27,6≤a.val→a.val≤17→6≤b.val→b.val≤17→signL.getD a.val []=signL.getD b.val []→a=b:=(by decide);have:=congrArg Fin.val (key ⟨k.toNat,by omega⟩ ⟨k'.toNat,by omega⟩ (by simp;omega) (by simp;omega) (by simp;omega) (by simp;omega) e);simp at this;omega
theorem level_of {k:Int} (h:6≤k∧k≤17): ∃ lv,lv≤4∧k ∈ sgL lv∧ ∀ j,lv+1≤j→j≤4→k ∉ sgL j:=by
 have:k=6∨k=7∨k=8∨k=9∨k=10∨k=11∨k=12∨k=13∨k=14∨k=15∨k=16∨k=17:=(by omega);have key: ∀ lv:Nat,lv≤4→k ∈ sgL lv→(∀ j:Fin 5,lv+1≤j.val→k ∉ sgL j.val)→ ∃ lv,lv≤4∧k ∈ sgL lv∧ ∀ j,lv+1≤j→j≤4→k ∉ sgL j:=
  fun lv a b c=>⟨lv,a,b,fun j h1 h2=>c ⟨j,by omega⟩ h1⟩
 rcases this with rfl|rfl|rfl|rfl|rfl|rfl|rfl|rfl|rfl|rfl|rfl|rfl
 ·exact key 1 (by decide) (by decide) (by decide)
 ·exact key 0 (by decide) (by decide) (by decide)
 ·exact key 2 (by decide) (by decide) (by decide)
 ·exact key 2 (by decide) (by decide) (by decide)
 ·exact key 2 (by decide) (by decide) (by decide)
 ·exact key 2 (by decide) (by decide) (by decide)
 ·exact key 2 (by decide) (by decide) (by decide)
 ·exact key 2 (by decide) (by decide) (by decide)
 ·exact key 3 (by decide) (by decide) (by decide)
 ·exact key 3 (by decide) (by decide) (by decide)
 ·exact key 4 (by decide) (by decide) (by decide)
 exact key 4 (by decide) (by decide) (by decide)
theorem Sg.mono {n:Nat} {l:RW} {WS ws:List TokS} {ps:List PartS} {D D':Nat} (h:Sg n l WS ws ps D) (hD:D≤D'):Sg n l WS ws ps D':=fun d i v r out K a b c=>h d i v r out K a b (by omega)
theorem Lv.mono {n:Nat} {l:RW} {WS ws:List TokS} {ps:List PartS} {lv D D':Nat} (h:Lv n l WS lv ws ps D) (hD:D≤D'):Lv n l WS lv ws ps D':=fun d i v r out K a b c e=>h d i v r out K a b c (by omega)
section
variable {n:Nat} (hn:100<n) {l:RW} {WS:List TokS} (hT:Toks l WS) (hW:WS.length≤4096)
include hn hT hW
theorem sg_bin {k:Int} (hk:6≤k∧k≤17) {a b:List TokS} {pa pb:List PartS} (ha:Sg n l WS a pa (8*a.length)) (hb:Sg n l WS b pb (8*b.length)):
 Sg n l WS (wSig [40]::(a++wSig (sgnT k)::(b++ [wSig [41]]))) (pa++(pb++ [bareP k 0])) (8*(a.length+b.length)+12):=by
 obtain⟨lv,hl,hm,hno⟩:=level_of hk;obtain⟨pre,post,hs,hpre⟩:=List.eq_append_cons_of_mem hm;have hfree:Free (lv+1) (wSig (sgnT k)):=fun j h1 h2 k' hk' e=>hno j h1 h2 (by
  rw[sgn_inj hk (sgL_le hk') ((sig_is _ _).1 e)];exact hk')
 have h1:=(lv_of hn hT hW (4 - lv) (lv+1) (by omega) ha).mono (D':=8*(a.length+b.length)+5) (by omega);have h2:=(lv_of hn hT hW (4 - lv) (lv+1) (by omega) hb).mono (D':=8*(a.length+b.length)+5) (by omega);have h3:=lv_bin hn hT hW hl hs (fun x hx e=>hpre (by rw[sgn_inj hk (sgL_le (show x ∈ sgL lv by rw[hs];exact List.mem_append_left _ hx)) e];exact hx)) hfree h1 h2;have h4:=lv_down hn hT hW lv 0 (by omega) (by rw[Nat.zero_add];exact h3);have h5:=sg_paren hn hT hW h4;rw[show(a++wSig (sgnT k)::b)++ [wSig [41]]=a++wSig (sgnT k)::(b++ [wSig [41]])by simp]at h5;exact h5.mono (by omega)
theorem com_len: ∀ l:List (List TokS),(l.map List.length).sum≤(comW l).length
 | []=>Nat.zero_le _
 |x::r=>by
  have: ∀ r:List (List TokS),(r.map List.length).sum≤(r.flatMap fun y=>wSig [44]::y).length:=by
   intro r;induction r with
   |nil=>simp
   |cons y r ih=>simp only[List.map_cons,List.sum_cons,List.flatMap_cons,List.length_append,List.length_cons];omega
  simp only[comW,List.map_cons,List.sum_cons,List.length_append];have:=this r;omega
theorem len_sum {l:List (List TokS)} {x:List TokS} (h:x ∈ l):x.length≤(l.map List.length).sum:=by
 induction l with
 |nil=>cases h
 |cons y r ih=>
  simp only[List.map_cons,List.sum_cons];rcases List.mem_cons.1 h with rfl|h
  ·omega
  have:=ih h;omega
theorem part_sg {p:PartS} (h:partOK p=true) (args:List (List TokS × List PartS)) (hl:(args.length:Int)=fneeds p.f0 p.f3) (ha: ∀ a ∈ args,Sg n l WS a.1 a.2 (8*a.1.length)):
 Sg n l WS (partW p (args.map Prod.fst)) (args.flatMap Prod.snd++ [p]) (8*(partW p (args.map Prod.fst)).length):=by
 have hk:=part_kind h;have hn1:=part_needs h;obtain⟨f1,f23,f4⟩:=part_form h;unfold partW;by_cases h1:p.f0=1
 ·have hz:args= []:=List.eq_nil_of_length_eq_zero (by rw[h1]at hl;simp[fneeds]at hl;simpa using hl);subst hz;rw[if_pos h1,show(([]:List (List TokS × List PartS)).flatMap Prod.snd++ [p])= [⟨1,p.f1,⟨#[]⟩,0⟩]by rw[← (f1 h1).1];rfl];exact(sg_term hn hT hW p.f1).mono (by simp)
 rw[if_neg h1];by_cases h2:p.f0=2
 ·have hz:args= []:=List.eq_nil_of_length_eq_zero (by rw[h2]at hl;simp[fneeds]at hl;simpa using hl);subst hz;have e:=(f23 (.inl h2)).1;rw[h2]at e;rw[if_pos h2,show(([]:List (List TokS × List PartS)).flatMap Prod.snd++ [p])= [⟨2,t0S,p.f2,0⟩]by rw[← e];rfl];exact(sg_var hn hT hW p.f2).mono (by simp)
 rw[if_neg h2];by_cases h3:p.f0=3
 ·have hz:args= []:=List.eq_nil_of_length_eq_zero (by rw[h3]at hl;simp[fneeds]at hl;simpa using hl);subst hz;have e:=(f23 (.inr h3)).1;rw[h3]at e;rw[if_pos h3,show(([]:List (List TokS × List PartS)).flatMap Prod.snd++ [p])= [⟨3,t0S,p.f2,0⟩]by rw[← e];rfl];exact(sg_bound hn hT hW p.f2).mono (by simp)
 rw[if_neg h3];have hp:=f4 (by omega);by_cases h5:p.f0≤5
 ·have hl1:args.length=1:=(by have:=hn1.1 (by omega) h5;omega);match args,hl1,ha with
  | [a],_,ha=>
   rw[if_pos h5];have:=sg_pre hn hT hW (k:=p.f0) (by omega) (ha a (List.mem_cons_self ..));rw[show bareP p.f0 0=p by rw[← hp.2 (by omega)];exact hp.1.symm]at this;simp only[List.map_cons,List.map_nil,List.flatMap_cons,List.flatMap_nil,List.append_nil];exact this.mono (by simp;omega)
 rw[if_neg h5];by_cases h17:p.f0≤17
 ·have hl2:args.length=2:=(by have:=hn1.2.1 (by omega) h17;omega);match args,hl2,ha with
  | [a,b],_,ha=>
   rw[if_pos h17];have:=sg_bin hn hT hW (k:=p.f0) (by omega) (ha a (List.mem_cons_self ..)) (ha b (List.mem_cons_of_mem _ (List.mem_cons_self ..)));rw[show bareP p.f0 0=p by rw[← hp.2 (by omega)];exact hp.1.symm]at this;simp only[List.map_cons,List.map_nil,List.flatMap_cons,List.flatMap_nil,List.append_nil,List.append_assoc];exact this.mono (by simp;omega)
 rw[if_neg h17];have hl3:=hn1.2.2 (by omega);match args,hl,ha with
 | [],hl,ha=>simp at hl;omega
 |x::args,hl,ha=>
  have hcl:=com_len hn hT hW ((x::args).map Prod.fst);have hd: ∀ a ∈ x::args,Lv n l WS 0 a.1 a.2 (8*(comW ((x::args).map Prod.fst)).length+6):=fun a hm=>
   (lv_of hn hT hW 5 0 rfl (ha a hm)).mono (by
    have:=len_sum hn hT hW (List.mem_map_of_mem (f:=Prod.fst) hm)
    omega)
  have:=sg_call hn hT hW (kd:=p.f0) (c:=p.f3) (by omega) hp.2 _ x args hd hl;rw[← hp.1]at this;exact this.mono (by simp;omega)
theorem form_sg: ∀ (r:List PartS) (st:List (List TokS × List PartS)),fchk (st.length:Int) r=0→(∀ a ∈ st,Sg n l WS a.1 a.2 (8*a.1.length))→ ∃ ws,formW r (st.map Prod.fst)= [ws]∧Sg n l WS ws (st.flatMap Prod.snd++r) (8*ws.length)
 | [],st,hc,ha=>by
  unfold fchk at hc;have h1:st.length=1:=by
   by_cases h:(st.length:Int)=1
   ·omega
   rw[if_neg h]at hc;cases hc
  match st,h1,ha with
  | [a],_,ha=>exact⟨a.1,rfl,by simpa using ha a (List.mem_cons_self ..)⟩
 |p::r,st,hc,ha=>by
  have hc':fchk ((st.map fun _=>([]:List UInt8)).length:Int) (p::r)=0:=(by rw[List.length_map];exact hc);obtain⟨hp,N,hN,hle,h16,hd,hc2,_,_,_⟩:=form_step hc';simp only[List.length_map,List.length_append,List.length_take,List.length_cons,List.length_nil]at hle hc2;have hlen:(st.drop (st.length - N)).length=N:=(by rw[List.length_drop];omega);(have hnew:=part_sg hn hT hW hp (st.drop (st.length - N)) (by rw[hlen,hN]) fun a h=>ha a (List.mem_of_mem_drop h));obtain⟨ws,h1,h2⟩:=form_sg r (st.take (st.length - N)++ [(partW p ((st.drop (st.length - N)).map Prod.fst),(st.drop (st.length - N)).flatMap Prod.snd++ [p])]) (by
   simp only[List.length_append,List.length_take,List.length_cons,List.length_nil];exact hc2) fun a h=>by
   rcases List.mem_append.1 h with h|h
   ·exact ha a (List.mem_of_mem_take h)
   rw[List.mem_singleton.1 h];exact hnew
  refine⟨ws,?_,?_⟩
  ·rw[formW,hN,Int.toNat_natCast,List.length_map];rw[List.map_append,List.map_take,List.map_drop]at h1;exact h1
  rw[List.flatMap_append]at h2;simp only[List.flatMap_cons,List.flatMap_nil,List.append_nil]at h2;have e:st.flatMap Prod.snd=(st.take (st.length - N)).flatMap Prod.snd++(st.drop (st.length - N)).flatMap Prod.snd:=(by rw[← List.flatMap_append,List.take_append_drop]);rw[e];simpa using h2
theorem formula_g {x:List PartS} (hx:fcheck x=0) (hf:Fuel n) (hxl: ∀ p ∈ x,p.lt n) (hD:40000≤n) {i:Nat} {v:TokS} {r:List TokS} (hd:WS.drop i=fW x++v::r) (hv:Free 0 v) (K:RW→Int→Int→Option R):
 formula_Parse.g n l (i:Int) K=K (x.map ePart) ((i+(fW x).length:Nat):Int) 0:=by
 obtain⟨hl,hc⟩:=fcheck_ok hx;obtain⟨ws,h1,h2⟩:=form_sg hn hT hW x [] hc fun a h=>by cases h
 have e:ws=fW x:=by
  unfold fW;rw[show([]:List (List TokS × List PartS)).map Prod.fst= []from rfl]at h1;rw[h1];rfl
 subst e;have hlen:i+(fW x).length+1≤WS.length:=by
  have:=congrArg List.length hd;simp only[List.length_drop,List.length_append,List.length_cons]at this;omega
 have hll:=hT.1;have h3:=lv_of hn hT hW 5 0 rfl h2 n i v r [];unfold formula_Parse.g;simp only[bifd,List.flatMap_nil,List.nil_append]at h3 ⊢;rw[if_neg (by omega),if_neg (by omega)];have h4:=h3 (fun l2 i2 l3 p1=>bif p1 then(K [] 0 2)else(formula_Check.g n l3 fun i3=>bif !(decide (i3=(0:Int)))then(K [] 0 i3)else(K l3 i2 0))) hd hv (by simp;omega) (by omega);rw[show([]:List PartS).map ePart= []from rfl]at h4;refine h4.trans ?_;rw[cond_false,fcheck_g x hf hxl,hx];rfl
end
end Go.Proofs.YtcfoebkbahpnaaaGreat.Ab
