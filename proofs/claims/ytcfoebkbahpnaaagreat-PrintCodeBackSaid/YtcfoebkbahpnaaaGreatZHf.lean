import Derived.Test.YtcfoebkbahpnaaaGreatZFzb
import Derived.Test.YtcfoebkbahpnaaaGreatZLk
set_option linter.unusedVariables false
set_option linter.unusedSimpArgs false
namespace Go.Proofs.YtcfoebkbahpnaaaGreat.Hd
open Go.RowKit Go.Proofs.YtcfoebkbahpnaaaGreatW.PrintWords Go.Proofs.YtcfoebkbahpnaaaGreatW.PrintLast
open Ab (DV AV Dat OwnA OwnS Pres Fresh AR ORep FunOK Ent EnvOK Enters RowsR slR Who Ro RW)
/-! what is said of formula.Check, formula.Needs, formula.text, as calls with typed rows -/
theorem vd (k:Nat):EnvOK Ab.G.P (Ab.E k (Ab.Hs k) 27):=Ab.v27 k
theorem vdC (k:Nat):Ab.E k (Ab.Hs k) 27 46=Ab.sp46 k (Ab.Hs k):=by kernel_rfl
theorem vdN (k:Nat):Ab.E k (Ab.Hs k) 27 56=Ab.sp56 k (Ab.Hs k):=by kernel_rfl
theorem vdT (k:Nat):Ab.E k (Ab.Hs k) 27 57=Ab.sp57 k (Ab.Hs k):=by kernel_rfl
def formula_Check.f (k : Nat) (l0 : List S98) : Option Int := if Ab.Fuel k ∧ ∀ p ∈ l0, p.lt k then some (Ab.fcheck l0) else none
theorem formula_Check.calls (k:Nat) (A0:Option Addr) (c0:Nat) (l0:List S98) (r:Int) (w:World) (hr0:Kd.C k98 w A0 l0.length l0) (hc0:l0.length≤c0) (h:formula_Check.f k l0=some r):
 Calls Tryz.prog 46 #[.slice A0 l0.length c0] w fun e w'=>e= .returned (.int .i64 r)∧Below w.heap.size w w':=by
 unfold formula_Check.f at h;split at h
 ·rename_i hk;obtain rfl:=Option.some.inj h;refine(calls_of (f:=46) (xs:= [.sl false 7 (l0.map Ab.ePart)]) (q:=(Ab.I (Ab.fcheck l0),[])) (vd k) ((congrFun (congrFun (congrFun (vdC k) _) _) _).trans (Ab.fcheck_g l0 hk.1 hk.2 (fun y=>some (Ab.I y,[])))) (fun x hx=>by obtain rfl:=List.mem_singleton.1 hx;rfl) (.cons (parts_D hc0 hr0) .nil)).mono ?_;rintro e w' ⟨v,D,rfl,hb,hd⟩;exact⟨by rw[dat_v hd],hb⟩
 cases h
section
variable (k:Nat) (a0 a1:Int) (a2 a3 a4 a5:ByteArray) (a6:Int)
theorem part_D {w:World}:Dat (fun _ _=>True) w (.ag (Ab.ePart ⟨a0,⟨a1,a2,a3,a4⟩,a5,a6⟩)) (.agg #[.int .i64 a0,.int .i64 a1,.string a2,.string a3,.string a4,.string a5,.int .i64 a6]):=
 dvs2 (.cons (.v rfl) (.cons (.v rfl) (.cons (.v rfl) (.cons (.v rfl) (.cons (.v rfl) (.cons (.v rfl) (.cons (.v rfl) .nil))))))) (by simp[Value.oneCell'])
def formula_Needs.f (k : Nat) (a0 a1 : Int) (a2 a3 a4 a5 : ByteArray) (a6 : Int) : Option Int := some (Ab.fneeds a0 a6)
theorem formula_Needs.calls (r:Int) (w:World) (h:formula_Needs.f k a0 a1 a2 a3 a4 a5 a6=some r):
 Calls Tryz.prog 56 #[.agg #[.int .i64 a0,.int .i64 a1,.string a2,.string a3,.string a4,.string a5,.int .i64 a6]] w fun e w'=>e= .returned (.int .i64 r)∧Below w.heap.size w w':=by
 obtain rfl:Ab.fneeds a0 a6=r:=Option.some.inj h;refine(calls_of (f:=56) (xs:= [.ag (Ab.ePart ⟨a0,⟨a1,a2,a3,a4⟩,a5,a6⟩)]) (q:=(Ab.I (Ab.fneeds a0 a6),[])) (vd k) ((congrFun (congrFun (congrFun (vdN k) _) _) _).trans (Ab.fneeds_g a0 a1 a2 a3 a4 a5 a6 (fun y=>some (Ab.I y,[])))) (fun x hx=>by obtain rfl:=List.mem_singleton.1 hx;rfl) (.cons (part_D a0 a1 a2 a3 a4 a5 a6) .nil)).mono ?_;rintro e w' ⟨v,D,rfl,hb,hd⟩;exact⟨by rw[dat_v hd],hb⟩
def formula_text.f (k : Nat) (a0 a1 : Int) (a2 a3 a4 a5 : ByteArray) (a6 : Int) (l1 : List ByteArray) : Option ByteArray :=
  if (Ab.Fuel k ∧ (⟨a0, ⟨a1, a2, a3, a4⟩, a5, a6⟩ : Ab.PartS).lt k) ∧ Ab.partOK ⟨a0, ⟨a1, a2, a3, a4⟩, a5, a6⟩ = true ∧ (l1.length : Int) = Ab.fneeds a0 a6 ∧ Ab.lsz (Ab.TB l1) ≤ 100000000 then some (ofL (Ab.partT ⟨a0, ⟨a1, a2, a3, a4⟩, a5, a6⟩ (Ab.TB l1))) else none
theorem TB_ofL (l:List ByteArray):(Ab.TB l).map ofL=l:=by
 unfold Ab.TB;rw[List.map_map];exact(List.map_congr_left (fun s _=>ofL_data s)).trans (List.map_id' l)
theorem ofL_TB (l:List (List UInt8)):Ab.TB (l.map ofL)=l:=by
 unfold Ab.TB;rw[List.map_map];exact(List.map_congr_left (fun s _=>rfl)).trans (List.map_id' l)
theorem formula_text.calls (A1:Option Addr) (c1:Nat) (l1:List ByteArray) (r:ByteArray) (w:World) (hr1:Kd.C Kd.string w A1 l1.length l1) (hc1:l1.length≤c1) (h:formula_text.f k a0 a1 a2 a3 a4 a5 a6 l1=some r):
 Calls Tryz.prog 57 #[.agg #[.int .i64 a0,.int .i64 a1,.string a2,.string a3,.string a4,.string a5,.int .i64 a6],.slice A1 l1.length c1] w fun e w'=>e= .returned (.string r)∧Below w.heap.size w w':=by
 unfold formula_text.f at h;split at h
 ·rename_i hk;obtain rfl:=Option.some.inj h;have hg:=Ab.part_g (p:=⟨a0,⟨a1,a2,a3,a4⟩,a5,a6⟩) hk.1.1 hk.1.2 hk.2.1 (Ab.TB l1) (by rw[show(Ab.TB l1).length=l1.length by simp[Ab.TB]];exact hk.2.2.1) hk.2.2.2 (fun y=>some (Ab.S y,[]));rw[TB_ofL]at hg;refine(calls_of (f:=57) (xs:= [.ag (Ab.ePart ⟨a0,⟨a1,a2,a3,a4⟩,a5,a6⟩),.sl false 1 (Ab.srow l1)]) (q:=(Ab.S (ofL (Ab.partT ⟨a0,⟨a1,a2,a3,a4⟩,a5,a6⟩ (Ab.TB l1))),[])) (vd k) ((congrFun (congrFun (congrFun (vdT k) _) _) _).trans hg) (fun x hx=>by simp only[List.mem_cons,List.not_mem_nil,or_false]at hx;rcases hx with rfl|rfl<;>rfl) (.cons (part_D a0 a1 a2 a3 a4 a5 a6) (.cons (strs_D hc1 hr1) .nil))).mono ?_;rintro e w' ⟨v,D,rfl,hb,hd⟩;exact⟨by rw[dat_v hd],hb⟩
 cases h
end
def formTGo (k : Nat) : List (S98) → List ByteArray → Option (List ByteArray)
  | [], l => some l
  | p :: r, l => (formula_Needs.f k p.f0 p.f1.f0 p.f1.f1 p.f1.f2 p.f1.f3 p.f2 p.f3).bind fun n =>
    if n < 0 ∨ (l.length : Int) < n then none else
    (formula_text.f k p.f0 p.f1.f0 p.f1.f1 p.f1.f2 p.f1.f3 p.f2 p.f3 (l.drop (l.length - n.toNat))).bind fun s =>
      formTGo k r (l.take (l.length - n.toNat) ++ [s])
def formula_Text.f (k : Nat) (l0 : List (S98)) : Option (ByteArray × Int) :=
  (formula_Check.f k l0).bind fun e => if e = 0 then (if l0.length ≤ 256 then (formTGo k l0 []).bind fun l => (if 0 < l.length then some (rdOf ByteArray.empty l 0, 0) else none) else none) else some (⟨#[]⟩, e)
set_option maxHeartbeats 8000000 in
set_option maxRecDepth 1000000 in
theorem formula_Text.calls (k:Nat) (A0:Option Addr) (c0:Nat) (l0:List (S98)) (r1:ByteArray) (r2:Int) (w:World) (hr0:Kd.C k98 w A0 l0.length l0) (hc0:l0.length≤c0) (h:formula_Text.f k l0=some (r1,r2)):
 Calls Tryz.prog 30 #[.slice A0 l0.length c0] w fun e w'=>e= .returned (.tuple #[.string r1,.int .i64 r2])∧Below w.heap.size w w':=by
 unfold formula_Text.f at h;obtain⟨e,he,h2⟩:=Option.bind_eq_some_iff.1 h;have HR:=Aside0.mk hr0;have HE:=Aside0.mk he;have HG:=Aside0.mk h2;clear hr0 h h2 he;go_enter Tryz.func30,Tryz.ntmps30;go_wp2_with fail;refine(formula_Check.calls k A0 c0 l0 e w HR.out hc0 HE.out).mono ?_;rintro e' w1 ⟨rfl,hb1⟩;have HB1:=Aside0.mk hb1;clear hb1;by_cases ce:e=0;case neg=>
  have h:=HG.out;rw[if_neg ce]at h;have ceb:(e !=0)=true:=(by simpa using ce);have ceb2:(e==0)=false:=(by simpa using ce);obtain⟨rfl,rfl⟩:=Prod.mk.inj (Option.some.inj h);clear ce h HG;go_wp2_with fail;go_ret2;exact⟨rfl,HB1.out⟩
 have h:=HG.out;rw[if_pos ce]at h;subst ce;by_cases c256:l0.length≤256;case neg=>rw[if_neg c256]at h;cases h
 rw[if_pos c256]at h;obtain⟨LL,hgo,h3⟩:=Option.bind_eq_some_iff.1 h;by_cases cL:0<LL.length;case neg=>rw[if_neg cL]at h3;cases h3
 rw[if_pos cL]at h3;obtain⟨rfl,rfl⟩:=Prod.mk.inj (Option.some.inj h3);clear h h3;have HGO:=Aside0.mk hgo;have C256:=Aside0.mk c256;have CL:=Aside0.mk cL;have hn0:=Kd.R_nil Kd.string 9 w1 w.heap.size (fun _=>True);have HN0:=Aside0.mk hn0;clear hn0 hgo c256 cL HG HE;go_wp2_with fail;go_loopw [5,16] (fun v5 v16 wr=> ∃ (i:Nat) (L:List ByteArray),v16= .int .i64 (i:Int)∧Aside0 (i≤l0.length)∧Aside0 (formTGo k (l0.drop i) L=some LL)∧Aside0 (L.length≤i)∧Aside0 (Kd.R Kd.string 9 wr w.heap.size (fun _=>True) v5 L)∧Aside0 (Below w.heap.size w wr)) (fun _ v16 _=>l0.length - (intOf v16).toNat);(case atStart=>exact⟨0,[],rfl,⟨Nat.zero_le _⟩,HGO,⟨Nat.zero_le _⟩,HN0,HB1⟩);case round=>
  obtain⟨i,L,rfl,HI,HG,HL,HO,HB⟩:=hrel;clear HN0 HGO HB1;obtain⟨A5,c5,e5,hl5,hC5⟩:=Kd.R_reads HO.out;subst e5;have HLC:=Aside0.mk hl5;have HC5:=Aside0.mk hC5;clear hl5 hC5;by_cases ci:i<l0.length
  ·obtain⟨p,hp,hd⟩: ∃ p,rd_T98 l0 (i:Int)=p∧l0.drop i=p::l0.drop (i+1):=by
    refine⟨l0[i],?_,List.drop_eq_getElem_cons ci⟩;unfold rd_T98;rw[Int.toNat_natCast,List.getD_eq_getElem?_getD,List.getElem?_eq_getElem ci];rfl
   have hl:=HG.out;rw[hd,formTGo]at hl;obtain⟨n,hn,hl1⟩:=Option.bind_eq_some_iff.1 hl;by_cases cn:n<0∨(L.length:Int)<n;case pos=>rw[if_pos cn]at hl1;cases hl1
   rw[if_neg cn]at hl1;obtain⟨s,hs,hl2⟩:=Option.bind_eq_some_iff.1 hl1;obtain⟨N,rfl⟩: ∃ N:Nat,n=(N:Int):=⟨n.toNat,by omega⟩;rw[Int.toNat_natCast]at hs hl2;have hNL:N≤L.length:=(by omega);have HN:=Aside0.mk hn;have HS:=Aside0.mk hs;have HL2:=Aside0.mk hl2;have HNL:=Aside0.mk hNL;obtain⟨ad,e,q0,q1,q2,q3,q4,q5,q6⟩:=at_T98 (Kd.C_below HR.out HB.out) (i:Int) (by omega) (by omega);rw[hp]at q0 q1 q2 q3 q4 q5 q6;simp only[Int.toNat_natCast]at q0 q1 q2 q3 q4 q5 q6;cases e
   have i0:((0:Int)≤(i:Int))=True:=eq_true (by omega);have i1:((i:Int)<(l0.length:Int))=True:=eq_true (by omega);have i2:decide ((i:Int)<(l0.length:Int))=true:=decide_eq_true (by omega);have CI:=Aside0.mk ci;clear hl hl1 hl2 hn hs hd hp cn hNL ci HG;go_wp2_with fail;clear q0 q1 q2 q3 q4 q5 q6;refine(formula_Needs.calls k p.f0 p.f1.f0 p.f1.f1 p.f1.f2 p.f1.f3 p.f2 p.f3 (N:Int) _ HN.out).mono ?_;rintro e w2 ⟨rfl,hb2⟩;have HBK:=Aside0.mk (blk_below (heap_alloc_new wr (.cells #[.int .i64 p.f0,.int .i64 p.f1.f0,.string p.f1.f1,.string p.f1.f2,.string p.f1.f3,.string p.f2,.int .i64 p.f3] 98)) hb2);have HB2:=Aside0.mk (below_then (below_alloc HB.out (.cells #[.int .i64 p.f0,.int .i64 p.f1.f0,.string p.f1.f1,.string p.f1.f2,.string p.f1.f3,.string p.f2,.int .i64 p.f3] 98)) (below_alloc HB.out _).size hb2);have HO2:=Aside0.mk (Kd.R_below (Kd.R_alloc HO.out (.cells #[.int .i64 p.f0,.int .i64 p.f1.f0,.string p.f1.f1,.string p.f1.f2,.string p.f1.f3,.string p.f2,.int .i64 p.f3] 98)) hb2);have hwr:wr.heap.size<w2.heap.size:=(Array.getElem?_eq_some_iff.1 HBK.out).1;have HWR:=Aside0.mk hwr;clear hb2 HN hwr;have hbig:L.length<9223372036854775807:=(by have:=HL.out;have:=C256.out;have:=CI.out;omega);have hsub:=sub_nat HNL.out hbig;have hsub2:IntKind.i64.wrap ((L.length:Int) - (N:Int))=((L.length - N:Nat):Int):=(by rw[i64_w];exact hsub);have hD:=Kd.C_drop (Kd.R_reads' HO2.out).2.2 (Nat.sub_le L.length N) HLC.out;rw[List.length_drop]at hD;have hN':L.length - (L.length - N)=N:=(by have:=HNL.out;omega);rw[hN']at hD;simp only[show Kd.string.sz=1 from rfl,Nat.mul_one]at hD;have HT:=Aside0.mk (Kd.R_take HO2.out (Nat.sub_le L.length N));have HG2:=HL2;clear HL2;have hML:L.length - N≤L.length:=Nat.sub_le _ _;generalize L.length - N=M at*;have d0:(0:Int)≤(M:Int):=Int.natCast_nonneg _;have d1:(M:Int)≤(L.length:Int):=(by omega);have d2:(M:Int)≤(c5:Int):=(by have:=HLC.out;omega);have HML:=Aside0.mk hML;have hown:(Value.slice A5 M c5).ownBlock=(Value.slice A5 L.length c5).ownBlock:=by cases A5<;>rfl
   (have hne: ∀ b:Nat,some b=(Value.slice A5 M c5).ownBlock→b<wr.heap.size:=fun b hb=>(Kd.R_lt HO.out) b (hown ▸ hb.symm));have HNE:=Aside0.mk (show some wr.heap.size≠ (Value.slice A5 M c5).ownBlock from fun e_=>Nat.lt_irrefl _ (hne _ e_));clear hown hne hML hbig HO HO2;have HCALL:=Aside0.mk (show ∀ (A6:Option Addr) (c6:Nat) (W:World),Kd.C Kd.string W A6 N (L.drop M)→N≤c6→Calls Tryz.prog 57 #[.agg #[.int .i64 p.f0,.int .i64 p.f1.f0,.string p.f1.f1,.string p.f1.f2,.string p.f1.f3,.string p.f2,.int .i64 p.f3],.slice A6 N c6] W fun e w'=>e= .returned (.string s)∧Below W.heap.size W w' from fun A6 c6 W hC hc=>by
    have hln:(L.drop M).length=N:=(by rw[List.length_drop];exact hN');have h_:=formula_text.calls k p.f0 p.f1.f0 p.f1.f1 p.f1.f2 p.f1.f3 p.f2 p.f3 A6 c6 (L.drop M) s W (by rw[hln];exact hC) (by rw[hln];exact hc) HS.out;rw[hln]at h_;exact h_)
   have hk0:=blk_cell HBK.out 0;have hk1:=blk_cell HBK.out 1;have hk2:=blk_cell HBK.out 2;have hk3:=blk_cell HBK.out 3;have hk4:=blk_cell HBK.out 4;have hk5:=blk_cell HBK.out 5;have hk6:=blk_cell HBK.out 6;by_cases hcm:c5=M;case' pos=>
    have hcm1:(c5=M)=True:=eq_true hcm
    rw[if_pos hcm]at hD
   case' neg=>
    have hcm1:(c5=M)=False:=eq_false hcm
    rw[if_neg hcm]at hD
   all_goals
    have HD:=Aside0.mk hD
    clear hD hcm
    go_upto_region 9 with (fail)
    go_region_held3 (fun w'=>w'.cell? ⟨wr.heap.size,0,none⟩=some (.int .i64 p.f0)∧w'.cell? ⟨wr.heap.size,1,none⟩=some (.int .i64 p.f1.f0)∧w'.cell? ⟨wr.heap.size,2,none⟩=some (.string p.f1.f1)∧w'.cell? ⟨wr.heap.size,3,none⟩=some (.string p.f1.f2)∧w'.cell? ⟨wr.heap.size,4,none⟩=some (.string p.f1.f3)∧w'.cell? ⟨wr.heap.size,5,none⟩=some (.string p.f2)∧w'.cell? ⟨wr.heap.size,6,none⟩=some (.int .i64 p.f3))
     (first|exact⟨by simpa using hk0,by simpa using hk1,by simpa using hk2,by simpa using hk3,by simpa using hk4,by simpa using hk5,by simpa using hk6⟩|exact⟨blk_cell HBX.out 0,blk_cell HBX.out 1,blk_cell HBX.out 2,blk_cell HBX.out 3,blk_cell HBX.out 4,blk_cell HBX.out 5,blk_cell HBX.out 6⟩|exact⟨blk_cell (blk_alloc HBX.out _) 0,blk_cell (blk_alloc HBX.out _) 1,blk_cell (blk_alloc HBX.out _) 2,blk_cell (blk_alloc HBX.out _) 3,blk_cell (blk_alloc HBX.out _) 4,blk_cell (blk_alloc HBX.out _) 5,blk_cell (blk_alloc HBX.out _) 6⟩|exact⟨blk_cell HBY.out 0,blk_cell HBY.out 1,blk_cell HBY.out 2,blk_cell HBY.out 3,blk_cell HBY.out 4,blk_cell HBY.out 5,blk_cell HBY.out 6⟩)
     (first|(go_at_call 57;(with_reducible refine(HCALL.out _ _ _ ?aC ?aL).mono ?_);(case aC=>exact Kd.C_below HD.out (below_drew (Below.refl _ _)));(case aL=>have:=HLC.out;omega);rintro e w5 ⟨rfl,hb⟩;have HBX:=Aside0.mk (blk_below HBK.out ((below_drew (Below.refl _ _)).trans hb));have HTX:=Aside0.mk (Kd.R_below (Kd.R_drew HT.out) hb);have HB5:=Aside0.mk (below_then (below_drew HB2.out) (below_drew HB2.out).size hb))|(refine Kd.R_append_step Kd.string (w0:=w) w.heap.size (by rfl) (.tmp 27) (.tmp 33) 37 9 (.string ⟨#[]⟩) 16 rfl Tryz.underlying37 info9 rfl (by decide) (by decide) (.slice A5 M c5) (L.take M) s _ (fun _=>True) (fun _=>False) rfl rfl rfl (fun _ hk=>hk.elim) (fun _ _=>trivial) HTX.out HB5.out HB5.out.size ?aL ?_;(case aL=>rw[List.length_take];have:=HL.out;have:=C256.out;have:=HI.out;omega);intro v1 w6 ho hb hg hat;have HBY:=Aside0.mk (blk_grown HBX.out hg HNE.out)))
    have HO5:=Aside0.mk ho
    have HB6:=Aside0.mk hb
    clear ho hb hg hat
    go_wp2_with fail
    go_roundw
    case rel=>exact⟨i+1,_,by rw[wrap_nat1 (by have:=CI.out;have:=C256.out;omega)],⟨by have:=CI.out;omega⟩,HG2,⟨by rw[List.length_append,List.length_take];have:=HL.out;simp;omega⟩,HO5,HB6⟩
    case measure=>
     have:=CI.out
     have:=C256.out
     rw[wrap_nat1 (by omega)]
     simp only[intOf,Int.toNat_natCast]
     omega
  have hi:i=l0.length:=(by have:=HI.out;omega);have i2:decide ((i:Int)<(l0.length:Int))=false:=decide_eq_false (by omega);have i3:(i<l0.length)=False:=eq_false ci;have i4:((i:Int)<(l0.length:Int))=False:=eq_false (by omega);have hg:=HG.out;rw[hi,List.drop_length,formTGo]at hg;obtain rfl:=Option.some.inj hg;obtain⟨ad,e,hx⟩:=Kd.at_string HC5.out (0:Int) (by omega) (by have:=CL.out;omega);cases e
  have hx0:wr.cell? ad=some (.string (rdOf ByteArray.empty L 0)):=by
   have h0:ad.add 0=ad:=(by simp[Addr.add]);rw[← h0];exact hx
  clear hx;have l1:((0:Int)<(L.length:Int))=True:=eq_true (by have:=CL.out;omega);have l2:(0<L.length)=True:=eq_true CL.out;clear hg hi ci HG;go_wp2_with fail;go_ret2;exact⟨rfl,HB.out⟩
/-! what formula.Text comes to, in plain -/
theorem formGo_some {n:Nat} (hn:Ab.Fuel n): ∀ (r:List Ab.PartS) (l:List (List UInt8)),(∀ p ∈ r,p.lt n)→Ab.fchk (l.length:Int) r=0→Ab.lsz l+20100*r.length≤90000000→formTGo n r (l.map ofL)=some ((Ab.formP r l).map ofL)
 | [],l,_,_,_=>rfl
 |p::r,l,hb,hc,hs=>by
  obtain⟨hp,N,hN,hle,h16,hd,hc2,he,hz,hz2⟩:=Ab.form_step hc;simp only[List.length_cons]at hs;simp only[formTGo];rw[show formula_Needs.f n p.f0 p.f1.f0 p.f1.f1 p.f1.f2 p.f1.f3 p.f2 p.f3=some (Ab.fneeds p.f0 p.f3)from rfl,Option.bind_some,hN,List.length_map,Int.toNat_natCast,← List.map_drop,← List.map_take,if_neg (by omega)];have ht:formula_text.f n p.f0 p.f1.f0 p.f1.f1 p.f1.f2 p.f1.f3 p.f2 p.f3 ((l.drop (l.length - N)).map ofL)=some (ofL (Ab.partT p (l.drop (l.length - N)))):=by
   unfold formula_text.f;rw[ofL_TB];exact if_pos ⟨⟨hn,hb p (List.mem_cons_self ..)⟩,hp,by rw[List.length_map,hd,hN],by omega⟩
  rw[ht,Option.bind_some,he];have:=formGo_some hn r _ (fun q hq=>hb q (List.mem_cons_of_mem _ hq)) hc2 (by omega);rw[List.map_append]at this;exact this
theorem text_some {n:Nat} (hn:Ab.Fuel n) (x:List Ab.PartS) (hb: ∀ p ∈ x,p.lt n):formula_Text.f n x=some (if Ab.fcheck x=0 then(ofL (Ab.formT x),0)else(⟨#[]⟩,Ab.fcheck x)):=by
 unfold formula_Text.f;rw[show formula_Check.f n x=some (Ab.fcheck x)from if_pos ⟨hn,hb⟩,Option.bind_some];by_cases h:Ab.fcheck x=0
 ·obtain⟨hl,hc⟩:=Ab.fcheck_ok h;rw[if_pos h,if_pos hl,if_pos h];have hg:=formGo_some hn x [] hb hc (by simp[Ab.lsz];omega);rw[(Ab.formT_is h).1]at hg;rw[show([]:List ByteArray)=([]:List (List UInt8)).map ofL from rfl,hg,Option.bind_some,if_pos (by simp)];rfl
 rw[if_neg h,if_neg h]
open Ab in
/-- formula.Text -/
theorem h30 (n:Nat):Ent G.P 30 (sp30 n (Hs n)):=by
 intro args obs K r h;unfold sp30 at h;obtain⟨a,a2,rfl,h1⟩:=hdL_inv h;obtain⟨l,rfl,h2⟩:=lA_inv h1;obtain⟨rfl,h5⟩:=endL_inv h2;obtain⟨rfl,h6⟩:=endL_inv h5;clear h h1 h2 h5;unfold formula_Text.g at h6;split at h6
 ·rename_i c hx;split at h6
  ·rename_i hc;have hb:c.length<4611686018427387904:=(by have:=hc.1.2;have:=hc.2.1;omega);by_cases hz:fcheck c=0
   ·(have hg: ∀ K',formula_Text.g n l K'=K' (ofL (formT c)) 0:=fun K'=>by unfold formula_Text.g;rw[hx];simp only[if_pos hc,if_pos hz]);refine⟨(.tu [S (ofL (formT c)),I 0],[]),fun K'=>hg (fun y0 y1=>K' (.tu [S y0,I y1],[])),⟨Tryz.f30,by kernel_rfl,by kernel_rfl,by kernel_rfl⟩,funOK_of (xs:= [.sl false 7 l]) (Ret.tu2 rfl rfl) fun D w vs hv=>?_⟩;obtain⟨u,rfl,hu⟩:=hv.one;obtain⟨A,cp,rfl,hl,hC⟩:=row_of (d:=k98) rfl rPart_K (unRows_of unPart_of hx) hb hu;exact formula_Text.calls n A cp c _ _ w hC hl (by rw[text_some hc.1 c hc.2.2,if_pos hz])
   (have hg: ∀ K',formula_Text.g n l K'=K' ⟨#[]⟩ (fcheck c):=fun K'=>by unfold formula_Text.g;rw[hx];simp only[if_pos hc,if_neg hz]);refine⟨(.tu [S ⟨#[]⟩,I (fcheck c)],[]),fun K'=>hg (fun y0 y1=>K' (.tu [S y0,I y1],[])),⟨Tryz.f30,by kernel_rfl,by kernel_rfl,by kernel_rfl⟩,funOK_of (xs:= [.sl false 7 l]) (Ret.tu2 rfl rfl) fun D w vs hv=>?_⟩;obtain⟨u,rfl,hu⟩:=hv.one;obtain⟨A,cp,rfl,hl,hC⟩:=row_of (d:=k98) rfl rPart_K (unRows_of unPart_of hx) hb hu;exact formula_Text.calls n A cp c _ _ w hC hl (by rw[text_some hc.1 c hc.2.2,if_neg hz])
  cases h6
 cases h6
end Go.Proofs.YtcfoebkbahpnaaaGreat.Hd
