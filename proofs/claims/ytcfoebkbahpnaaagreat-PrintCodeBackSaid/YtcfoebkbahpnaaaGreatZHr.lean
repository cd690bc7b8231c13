import Derived.Test.YtcfoebkbahpnaaaGreatZHo
set_option linter.unusedVariables false
set_option linter.unusedSimpArgs false
namespace Go.Proofs.YtcfoebkbahpnaaaGreat.Hd
open Go.RowKit Go.Proofs.YtcfoebkbahpnaaaGreatW.PrintWords Go.Proofs.YtcfoebkbahpnaaaGreatW.PrintLast
open Ab (DV AV Dat OwnA OwnS Pres Fresh AR ORep FunOK Ent EnvOK Enters RowsR slR Who Ro RW)
open Ab (RS oneL twoL leaf2 resFrom)
def k86 : Kd (Nat × Int × Bool) := Kd.pair (Kd.scalar (fun b : Nat => Value.map (some b)) (fun _ => rfl)) (Kd.pair (Kd.int .i64) Kd.bool)
theorem k86_open {w:World} {x:Nat × Int × Bool} {cs:List Value} (h:k86.K w x cs):cs= [.map (some x.1),.int .i64 x.2.1,.bool x.2.2]:=by
 obtain⟨_,_,rfl,rfl,⟨_,_,rfl,rfl,rfl⟩⟩:=h;rfl
theorem k86_mkM (w:World) (base:Nat) (ok:Nat→Prop) (x:Nat × Int × Bool):k86.M w base ok x [.map (some x.1),.int .i64 x.2.1,.bool x.2.2]:=⟨[.map (some x.1)],[.int .i64 x.2.1,.bool x.2.2],rfl,rfl,⟨[.int .i64 x.2.1],[.bool x.2.2],rfl,rfl,rfl⟩⟩
def rd_R (xs : List (Nat × Int × Bool)) (i : Int) : Nat × Int × Bool := xs.getD i.toNat (0, 0, false)
theorem at_R {w:World} {A:Option Addr} {n:Nat} {xs:List (Nat × Int × Bool)} (h:Kd.C k86 w A n xs) (i:Int) (h0:0≤i) (h1:i<n): ∃ ad,A=some ad∧w.cell? (ad.add (i.toNat*3))=some (.map (some (rd_R xs i).1))∧w.cell? ⟨(ad.add (i.toNat*3)).block,(ad.add (i.toNat*3)).off+1,none⟩=some (.int .i64 (rd_R xs i).2.1)∧w.cell? ⟨(ad.add (i.toNat*3)).block,(ad.add (i.toNat*3)).off+2,none⟩=some (.bool (rd_R xs i).2.2):=by
 obtain⟨ad,c,e,_,hK,hc0⟩:=Kd.C_get h (0,0,false) i h0 h1;have hc: ∀ j u,c[j]? =some u→w.cell? (ad.add (i.toNat*3+j))=some u:=hc0;obtain rfl:=k86_open hK;exact⟨ad,e,hc 0 _ rfl,by rw[← add_field _ _ 1 (by omega)];exact hc 1 _ rfl,by rw[← add_field _ _ 2 (by omega)];exact hc 2 _ rfl⟩
theorem info86:(Tryz.prog.info? 77).map (fun i=>(i.zero,i.size,i.bytes))=some (some (.agg #[.map none,.int .i64 0,.bool false]),3,24):=by kernel_rfl
def fitR (w : World) (r : Nat × Int × Bool) (R : RS) : Prop := MapS w r.1 R.S.length R.S ∧ r.2.1 = R.fr ∧ r.2.2 = R.sv
def FitS (w : World) : List (Nat × Int × Bool) → List RS → Prop
  | [], [] => True
  | r :: rs, R :: Rs => fitR w r R ∧ FitS w rs Rs
  | _, _ => False
/-- the names that an operation brings, of what it needs -/
def resNames (k : Nat) (o : S43) : List RS → Option (List ByteArray)
  | [] => scope_leaf.f k o.f1 o.f2.f0 o.f2.f1
  | [a] => if a.S.length < 4294967296 ∧ o.f4.size ≤ maxLen then some (oneL o.f0 o.f4 a.S) else none
  | [a, b] => if a.S.length + b.S.length < 4294967296 then some (twoL o.f0 a.S b.S) else none
  | _ => none
def resBad (o : S43) (bad : Int) : List RS → Int
  | [a] => if hasB a.S o.f4 = true ∧ o.f0 = 8 then 6 else bad
  | _ => bad
def resGo (k : Nat) : Nat → List (S43) → List Int → List RS → Int → Option (List Int × Int)
  | _, [], out, l, bad => if l.length = 1 then some (out, bad) else some ([], 2)
  | i, o :: r, out, l, bad =>
    (scope_Needs.f k o.f0 o.f1 o.f2.f0 o.f2.f1 o.f3 o.f4 o.f5).bind fun n =>
    (scope_Right.f k o.f0 o.f1 o.f2.f0 o.f2.f1 o.f3 o.f4 o.f5).bind fun t =>
    if t = false then some ([], 2) else if (l.length : Int) < n then some ([], 2) else if n < 0 then none else
    if o.f0 = 9 ∧ (l.drop (l.length - n.toNat)).any RS.sv = true then some ([], 2) else
    (resNames k o (l.drop (l.length - n.toNat))).bind fun S =>
      resGo k (i + 1) r (out ++ [resFrom i (l.drop (l.length - n.toNat))]) (l.take (l.length - n.toNat) ++ [⟨S, resFrom i (l.drop (l.length - n.toNat)), o.f0 == 9 || (l.drop (l.length - n.toNat)).any RS.sv⟩]) (resBad o bad (l.drop (l.length - n.toNat)))
def scope_results.f (k : Nat) (l0 : List (S43)) : Option (List Int × Int) := if l0.length > 128 then some ([], 3) else resGo k 0 l0 [] [] 0
theorem MapS.ne {w:World} {b n g:Nat} {S:List ByteArray} {cs:Array Value} {t:TypeId} (h:MapS w b n S) (hg:w.heap[g]? =some (.cells cs t (0,0))):b≠g:=by
 rintro rfl;obtain⟨D,⟨es,cl,h1,_⟩,_⟩:=h;rw[h1]at hg;cases hg
theorem FitS_at {w:World}: ∀ {rs:List (Nat × Int × Bool)} {Rs:List RS} (_:FitS w rs Rs) (j:Nat) (_:j<rs.length),∃ R,Rs[j]? =some R∧fitR w (rd_R rs (j:Int)) R
 |r::rs,R::Rs,h,0,_=>⟨R,rfl,h.1⟩
 |r::rs,R::Rs,h,j+1,hj=>by
  obtain⟨R',h1,h2⟩:=FitS_at h.2 j (by simpa using hj);exact⟨R',h1,h2⟩
theorem FitS_drop {w:World}: ∀ {rs:List (Nat × Int × Bool)} {Rs:List RS} (_:FitS w rs Rs) (m:Nat),FitS w (rs.drop m) (Rs.drop m)
 |_,_,h,0=>h
 | [],[],_,_+1=>trivial
 |_::_,_::_,h,m+1=>FitS_drop h.2 m
theorem FitS_take {w:World}: ∀ {rs:List (Nat × Int × Bool)} {Rs:List RS} (_:FitS w rs Rs) (m:Nat),FitS w (rs.take m) (Rs.take m)
 |_,_,_,0=>trivial
 | [],[],_,_+1=>trivial
 |_::_,_::_,h,m+1=>⟨h.1,FitS_take h.2 m⟩
theorem FitS_snoc {w:World} {r:Nat × Int × Bool} {R:RS} (h2:fitR w r R): ∀ {rs:List (Nat × Int × Bool)} {Rs:List RS} (_:FitS w rs Rs),FitS w (rs++ [r]) (Rs++ [R])
 | [],[],_=>⟨h2,trivial⟩
 |_::_,_::_,h=>⟨h.1,FitS_snoc h2 h.2⟩
theorem FitS_grown {w w1:World} {row:Option Nat} (hg:w.grownBy w1 row) (hty: ∀ k,row=some k→ ∃ cells t,w.heap[k]? =some (.cells cells t (0,0))): ∀ {rs:List (Nat × Int × Bool)} {Rs:List RS} (_:FitS w rs Rs),FitS w1 rs Rs
 | [],[],_=>trivial
 |_::_,_::_,h=>⟨⟨MapS.grown h.1.1 hg (fun e=>by
  obtain⟨_,_,hc⟩:=hty _ e.symm;exact MapS.ne h.1.1 hc rfl),h.1.2⟩,FitS_grown hg hty h.2⟩
theorem FitS_below {w w1:World} {rs:List (Nat × Int × Bool)} {Rs:List RS} (h:FitS w rs Rs) (hb:Below w.heap.size w w1):FitS w1 rs Rs:=FitS_grown (grown_of_below hb none) (fun _ e=>by cases e) h
theorem sub_nat {a b:Nat} (h:b≤a) (ha:a<9223372036854775807):wrap64 ((a:Int) - (b:Int))=((a - b:Nat):Int):=by unfold wrap64;omega
theorem FitS_len {w:World}: ∀ {rs:List (Nat × Int × Bool)} {Rs:List RS},FitS w rs Rs→rs.length=Rs.length
 | [],[],_=>rfl
 |_::_,_::_,h=>by rw[List.length_cons,List.length_cons,FitS_len h.2]
set_option maxHeartbeats 8000000 in
set_option maxRecDepth 1000000 in
theorem scope_results.calls (k:Nat) (A0:Option Addr) (c0:Nat) (l0:List (S43)) (r0:List Int × Int) (w:World) (hr:Kd.C k43 w A0 l0.length l0) (hc:l0.length≤c0) (h:scope_results.f k l0=some r0):
 Calls Tryz.prog 15 #[.slice A0 l0.length c0] w fun e w'=> ∃ A c rs,e= .returned (.tuple #[.slice A rs.length c,.int .i64 r0.2])∧rs.length≤c∧Kd.C k86 w' A rs.length rs∧rs.map (fun r=>r.2.1)=r0.1∧Below w.heap.size w w':=by
 unfold scope_results.f at h;have HR:=Aside0.mk hr;by_cases c128:l0.length>128
 ·rw[if_pos c128]at h;obtain rfl:=Option.some.inj h;have d1:decide ((l0.length:Int)>128)=true:=decide_eq_true (by omega);have d2:decide ((128:Int)<(l0.length:Int))=true:=decide_eq_true (by omega);have d3:((128:Int)<(l0.length:Int))=True:=eq_true (by omega);clear h hr hc c128;go_enter Tryz.func15,Tryz.ntmps15;go_wp2_with fail;go_ret2;refine⟨none,0,[],rfl,Nat.zero_le _,?_,rfl,Below.refl _ _⟩;exact Kd.C_nil _ _
 rw[if_neg c128]at h;have HG:=Aside0.mk h;have C128:=Aside0.mk c128;have d2:decide ((128:Int)<(l0.length:Int))=false:=decide_eq_false (by omega);have d3:((128:Int)<(l0.length:Int))=False:=eq_false (by omega);clear h hr c128;go_enter Tryz.func15,Tryz.ntmps15;go_wp2_with fail;have hn0:=Kd.R_nil k86 77 w w.heap.size (fun q=>True∧some q≠ (Value.slice none 0 0).ownBlock);have HN0:=Aside0.mk hn0;clear hn0;go_loopw [4,5,6,21] (fun v4 v5 v6 v21 wr=> ∃ (i:Nat) (outs:List Int) (L:List RS) (bad:Int) (ors lrs:List (Nat × Int × Bool)),v21= .int .i64 (i:Int)∧v6= .int .i64 bad∧Aside0 (i≤l0.length)∧Aside0 (resGo k i (l0.drop i) outs L bad=some r0)∧Aside0 (ors.map (fun r=>r.2.1)=outs∧ors.length=i∧lrs.length≤i)∧Aside0 (FitS wr lrs L)∧Aside0 (Kd.R k86 77 wr w.heap.size (fun q=>True∧some q≠v5.ownBlock) v4 ors)∧Aside0 (Kd.R k86 77 wr w.heap.size (fun q=>True∧some q≠v4.ownBlock) v5 lrs)∧Aside0 (Below w.heap.size w wr)) (fun _ _ _ v21 _=>l0.length - (intOf v21).toNat);(case atStart=>exact⟨0,[],[],0,[],[],rfl,rfl,⟨Nat.zero_le _⟩,HG,⟨rfl,rfl,Nat.le_refl _⟩,⟨trivial⟩,HN0,HN0,⟨Below.refl _ _⟩⟩);case round=>
  obtain⟨i,outs,L,bad,ors,lrs,rfl,rfl,HI,HG,HE,HF,HO,HL,HB⟩:=hrel;clear HN0;obtain⟨A4,c4,e4,hl4,hC4⟩:=Kd.R_reads HO.out;obtain⟨A5,c5,e5,hl5,hC5⟩:=Kd.R_reads HL.out;subst e4;subst e5;have HLC:=Aside0.mk hl5;have HC5:=Aside0.mk hC5;have HC4:=Aside0.mk hC4;have HLC4:=Aside0.mk hl4;clear hl4 hC4 hC5 hl5;by_cases ci:i<l0.length
  ·obtain⟨op,hop,hd⟩: ∃ op,rd_T43 l0 (i:Int)=op∧l0.drop i=op::l0.drop (i+1):=by
    refine⟨l0[i],?_,List.drop_eq_getElem_cons ci⟩;unfold rd_T43;rw[Int.toNat_natCast,List.getD_eq_getElem?_getD,List.getElem?_eq_getElem ci];rfl
   have hl:=HG.out;rw[hd,resGo]at hl;obtain⟨n,hn,hl1⟩:=Option.bind_eq_some_iff.1 hl;obtain⟨t,ht,hl2⟩:=Option.bind_eq_some_iff.1 hl1;have HN:=Aside0.mk hn;have HT:=Aside0.mk ht;have HL2:=Aside0.mk hl2;obtain⟨ad,A1,c1,A2,c2,A3,c3,A4',c4',e,q0,q1,q2,q3,q4,q5,q6,qa,qb,qc,qd,qe,qf,qg,qh⟩:=at_T43 (Kd.C_below HR.out HB.out) (i:Int) (by omega) (by omega);rw[hop]at q0 q1 q2 q3 q4 q5 q6 qa qb qc qd qe qf qg qh;simp only[Int.toNat_natCast]at q0 q1 q2 q3 q4 q5 q6;cases e
   have Q1:=Aside0.mk qb;have Q2:=Aside0.mk qd;have Q3:=Aside0.mk qf;have Q4:=Aside0.mk qh;have P1:=Aside0.mk qa;have P2:=Aside0.mk qc;have P3:=Aside0.mk qe;have P4:=Aside0.mk qg;have i0:((0:Int)≤(i:Int))=True:=eq_true (by omega);have i1:((i:Int)<(l0.length:Int))=True:=eq_true (by omega);have i2:decide ((i:Int)<(l0.length:Int))=true:=decide_eq_true (by omega);have CI:=Aside0.mk ci;have HOP:=Aside0.mk hop;clear hl hl1 hl2 hn ht hd hop qa qb qc qd qe qf qg qh ci HG;go_wp2_with fail;clear q0 q1 q2 q3 q4 q5 q6;refine(scope_Needs.calls k op.f0 A1 c1 op.f1 A2 c2 op.f2.f0 A3 c3 op.f2.f1 A4' c4' op.f3 op.f4 op.f5 n _ (Kd.C_alloc Q1.out _) P1.out (Kd.C_alloc Q2.out _) P2.out (Kd.C_alloc Q3.out _) P3.out (Kd.C_alloc Q4.out _) P4.out HN.out).mono ?_;rintro e w1 ⟨rfl,hb1⟩;have Q1a:=Aside0.mk (Kd.C_below (Kd.C_alloc Q1.out _) hb1);have Q2a:=Aside0.mk (Kd.C_below (Kd.C_alloc Q2.out _) hb1);have Q3a:=Aside0.mk (Kd.C_below (Kd.C_alloc Q3.out _) hb1);have Q4a:=Aside0.mk (Kd.C_below (Kd.C_alloc Q4.out _) hb1);have HBK1:=Aside0.mk (blk_below (heap_alloc_new wr (.cells #[.int .i64 op.f0,.slice A1 op.f1.length c1,.slice A2 op.f2.f0.length c2,.slice A3 op.f2.f1.length c3,.slice A4' op.f3.length c4',.string op.f4,.bool op.f5] 43)) hb1);have HB1:=Aside0.mk (below_then (below_alloc (Below.refl wr.heap.size wr) (.cells #[.int .i64 op.f0,.slice A1 op.f1.length c1,.slice A2 op.f2.f0.length c2,.slice A3 op.f2.f1.length c3,.slice A4' op.f3.length c4',.string op.f4,.bool op.f5] 43)) (below_alloc (Below.refl wr.heap.size wr) _).size hb1);have hk0:=blk_cell HBK1.out 0;have hk1:=blk_cell HBK1.out 1;have hk2:=blk_cell HBK1.out 2;have hk3:=blk_cell HBK1.out 3;have hk4:=blk_cell HBK1.out 4;have hk5:=blk_cell HBK1.out 5;have hk6:=blk_cell HBK1.out 6;clear hb1;go_wp2_with fail;clear hk0 hk1 hk2 hk3 hk4 hk5 hk6;refine(scope_Right.calls k op.f0 A1 c1 op.f1 A2 c2 op.f2.f0 A3 c3 op.f2.f1 A4' c4' op.f3 op.f4 op.f5 t _ Q1a.out P1.out Q2a.out P2.out Q3a.out P3.out Q4a.out P4.out HT.out).mono ?_;rintro e w2 ⟨rfl,hb2⟩;have HBK:=Aside0.mk (blk_below HBK1.out hb2);have HB2:=Aside0.mk (HB1.out.trans (hb2.mono HB1.out.size));clear hb2 Q1a Q2a Q3a Q4a Q4 P4 HB1 HBK1;cases t with
   |false=>
    have hl:=HL2.out;simp only[if_true]at hl;obtain rfl:=Option.some.inj hl;clear hl HL2;go_wp2_with fail;go_ret2;exact⟨none,0,[],rfl,Nat.zero_le _,Kd.C_nil _ _,rfl,below_then HB.out HB.out.size HB2.out⟩
   |true=>
   have hl:=HL2.out;rw[if_neg (by decide)]at hl;have hfl:=FitS_len HF.out;clear HL2;by_cases cn:(L.length:Int)<n
   ·rw[if_pos cn]at hl;obtain rfl:=Option.some.inj hl;have n1:((lrs.length:Int)<n)=True:=eq_true (by rw[hfl];exact cn);have n2:decide ((lrs.length:Int)<n)=true:=decide_eq_true (by rw[hfl];exact cn);clear hl hfl cn;go_wp2_with fail;go_ret2;exact⟨none,0,[],rfl,Nat.zero_le _,Kd.C_nil _ _,rfl,below_then HB.out HB.out.size HB2.out⟩
   rw[if_neg cn]at hl;by_cases cn0:n<0
   ·rw[if_pos cn0]at hl;cases hl
   rw[if_neg cn0]at hl;obtain⟨N,rfl⟩: ∃ N:Nat,n=(N:Int):=⟨n.toNat,by omega⟩;have hNL:N≤lrs.length:=(by omega);rw[Int.toNat_natCast]at hl;have n1:((lrs.length:Int)<(N:Int))=False:=eq_false (by omega);have n2:decide ((lrs.length:Int)<(N:Int))=false:=decide_eq_false (by omega);have HG:=Aside0.mk hl;have HFL:=Aside0.mk hfl;have HNL:=Aside0.mk hNL;clear hl hfl cn cn0;have hk0:=blk_cell HBK.out 0;go_upto_region 12 with (fail)
   clear hk0;go_cut [11] (fun v11 wx=> ∃ A6 c6,v11= .slice A6 N c6∧Aside0 (N≤c6)∧Aside0 (Kd.C k86 wr A6 N (lrs.drop (lrs.length - N)))∧wx=w2.alloc (Obj.cells #[.map none,.int .i64 (i:Int),.bool (op.f0==9)] 77));case first=>
    have hbig:lrs.length<9223372036854775807:=(by have:=HE.out.2.2;have:=C128.out;have:=CI.out;omega);have hm:=sub_nat hNL hbig;have hD:=Kd.C_drop HC5.out (Nat.sub_le lrs.length N) HLC.out;rw[List.length_drop,show lrs.length - (lrs.length - N)=N by omega]at hD;have HD:=Aside0.mk hD;clear hD;have hN':lrs.length - (lrs.length - N)=N:=(by omega);by_cases hcm:c5=lrs.length - N
    ·have hcm1:(c5=lrs.length - N)=True:=eq_true hcm;have HCM:=Aside0.mk hcm;clear hcm;go_wp2_with fail;go_meet;case rel=>
      have hd:=HD.out;rw[if_pos HCM.out]at hd;exact⟨A5,_,rfl,⟨by have:=HLC.out;have:=HCM.out;omega⟩,⟨hd⟩,rfl⟩
    have hcm1:(c5=lrs.length - N)=False:=eq_false hcm;have HCM:=Aside0.mk hcm;clear hcm;go_wp2_with fail;go_meet;case rel=>
     have hd:=HD.out;rw[if_neg HCM.out]at hd;exact⟨_,_,rfl,⟨by have:=HLC.out;omega⟩,⟨hd⟩,rfl⟩
   case rest=>
    obtain⟨A6,c6,rfl,HN6,HC6,rfl⟩:=hcut;have HRB:=Aside0.mk (heap_alloc_new w2 (.cells #[.map none,.int .i64 (i:Int),.bool (op.f0==9)] 77));have HB3:=Aside0.mk (below_alloc HB2.out (.cells #[.map none,.int .i64 (i:Int),.bool (op.f0==9)] 77));have HBK3:=Aside0.mk (blk_alloc HBK.out (.cells #[.map none,.int .i64 (i:Int),.bool (op.f0==9)] 77));have HW2:=Aside0.mk (show wr.heap.size<w2.heap.size from(Array.getElem?_eq_some_iff.1 HBK.out).1);have hfd:FitS wr (lrs.drop (lrs.length - N)) (L.drop (L.length - N)):=by
     have q:=FitS_drop HF.out (lrs.length - N);rwa[show L.drop (L.length - N)=L.drop (lrs.length - N)by rw[HFL.out]]
    have HFD:=Aside0.mk hfd;have HNR:=Aside0.mk (show(lrs.drop (lrs.length - N)).length=N by rw[List.length_drop];omega);clear HB2 HBK hfd;generalize w2.alloc (Obj.cells #[.map none,.int .i64 (i:Int),.bool (op.f0==9)] 77)=w3 at*;generalize w2.heap.size=rb at*;generalize lrs.drop (lrs.length - N)=NR at*;generalize hND:L.drop (L.length - N)=ND at*;have HND:=Aside0.mk hND;clear hND;go_upto_if 49 with (fail)
    go_cut [] (fun wx=>Aside0 (wx.heap[rb]? =some (.cells #[.map none,.int .i64 (resFrom i ND),.bool (op.f0==9)] 77 (0,0)))∧Aside0 (wx.heap[wr.heap.size]? =some (.cells #[.int .i64 op.f0,.slice A1 op.f1.length c1,.slice A2 op.f2.f0.length c2,.slice A3 op.f2.f1.length c3,.slice A4' op.f3.length c4',.string op.f4,.bool op.f5] 43 (0,0)))∧Aside0 (Below wr.heap.size wr wx));case first=>
     by_cases c0:0<N
     ·obtain⟨r,NR',R,ND',rfl,rfl,hfr⟩: ∃ r NR' R ND',NR=r::NR'∧ND=R::ND'∧fitR wr r R:=by
       have h1:=HNR.out;have h2:=HFD.out;cases NR with
       |nil=>simp at h1;omega
       |cons r NR'=>
        cases ND with
        |nil=>exact h2.elim
        |cons R ND'=>exact⟨r,NR',R,ND',rfl,rfl,h2.1⟩
      obtain⟨a6,e6,p0,p1,p2⟩:=at_R (Kd.C_below HC6.out HB3.out) 0 (Int.le_refl _) (by omega);cases e6
      rw[show rd_R (r::NR') 0=r from rfl,hfr.2.1]at p1;change w3.cell? ⟨a6.block,a6.off+1,none⟩=_ at p1;have n0:decide ((0:Int)<(N:Int))=true:=decide_eq_true (by omega);have n1:((0:Int)<(N:Int))=True:=eq_true (by omega);have n2:decide (0<N)=true:=decide_eq_true c0;have hk1:=blk_cell HRB.out 1;have hz1:=blk_frozen HRB.out 1;rw[n2];have n3:(0<N)=True:=eq_true c0;clear c0 hfr p0 p2 n0 n2;go_wp2_with fail;go_meet;case rel=>exact⟨⟨blk_set HRB.out 1 _⟩,⟨blk_far HBK3.out (by have:=HW2.out;simp;omega) _⟩,⟨below_set HB3.out (by have:=HW2.out;omega)⟩⟩
     obtain⟨rfl,rfl⟩:NR= []∧ND= []:=by
      have h1:=HNR.out;have h2:=HFD.out;cases NR with
      |cons r NR'=>simp at h1;omega
      |nil=>
       cases ND with
       |nil=>exact⟨rfl,rfl⟩
       |cons R ND'=>exact h2.elim
     have n0:decide ((0:Int)<(N:Int))=false:=decide_eq_false (by omega);have n1:((0:Int)<(N:Int))=False:=eq_false (by omega);have n2:decide (0<N)=false:=decide_eq_false c0;rw[n2];clear c0 n0 n1 n2;go_wp2_with fail;go_meet;case rel=>exact⟨HRB,HBK3,HB3⟩
    case rest=>
     obtain⟨HRB0,HBK0,HB30⟩:=hcut;clear HRB HB3 HBK3;go_wp2_with fail;go_loopw [57] (fun v57 wx=> ∃ j:Nat,v57= .int .i64 (j:Int)∧Aside0 (j≤N)∧Aside0 (op.f0=9→(ND.take j).any RS.sv=false)∧Aside0 (wx.heap[rb]? =some (.cells #[.map none,.int .i64 (resFrom i ND),.bool (op.f0==9||(ND.take j).any RS.sv)] 77 (0,0)))∧Aside0 (wx.heap[wr.heap.size]? =some (.cells #[.int .i64 op.f0,.slice A1 op.f1.length c1,.slice A2 op.f2.f0.length c2,.slice A3 op.f2.f1.length c3,.slice A4' op.f3.length c4',.string op.f4,.bool op.f5] 43 (0,0)))∧Aside0 (Below wr.heap.size wr wx)) (fun v57 _=>N - (intOf v57).toNat);(case atStart=>exact⟨0,rfl,⟨Nat.zero_le _⟩,⟨fun _=>rfl⟩,⟨by simpa using HRB0.out⟩,HBK0,HB30⟩);case round=>
      generalize wr=wx at*;clear wr;obtain⟨j,rfl,HJ,HSV,HRB,HBK,HB3⟩:=hrel;clear HRB0 HBK0 HB30;by_cases cj:j<N
      ·obtain⟨R,hR,hfr⟩:=FitS_at HFD.out j (by rw[HNR.out];exact cj);obtain⟨a6,e6,p0,p1,p2⟩:=at_R (Kd.C_below HC6.out HB3.out) (j:Int) (by omega) (by omega);cases e6
       rw[hfr.2.2]at p2;simp only[Int.toNat_natCast]at p0 p1 p2;have hany:(ND.take (j+1)).any RS.sv=((ND.take j).any RS.sv||R.sv):=(by rw[List.take_add_one,hR,List.any_append];simp);have hmem:R ∈ ND:=List.mem_of_getElem? hR;have HANY:=Aside0.mk hany;have HMEM:=Aside0.mk hmem;have hbig:N<9223372036854775807:=(by have:=HE.out.2.2;have:=C128.out;have:=CI.out;omega);have HBIG:=Aside0.mk (show j+1≤N∧j<9223372036854775807∧N - (intOf (.int .i64 (wrap64 ((j:Int)+1)))).toNat<N - (intOf (.int .i64 (j:Int))).toNat from⟨by omega,by omega,by rw[wrap_nat1 (by omega)];simp only[intOf,Int.toNat_natCast];omega⟩);have j0:((0:Int)≤(j:Int))=True:=eq_true (by omega);have j1:((j:Int)<(N:Int))=True:=eq_true (by omega);have j2:decide ((j:Int)<(N:Int))=true:=decide_eq_true (by omega);have j3:decide (j<N)=true:=decide_eq_true cj;have j4:(j<N)=True:=eq_true cj;have CJ:=Aside0.mk cj;clear hR hfr hany hmem hbig cj;generalize hsb:(op.f0==9||(ND.take j).any RS.sv)=sb at*;have HSB:=Aside0.mk hsb;generalize hrs:R.sv=sv at*;have HRS:=Aside0.mk hrs;clear hsb hrs;generalize rd_R NR (j:Int)=rj at*;have HBK1:=Aside0.mk (blk_alloc HBK.out (.cells #[.map (some rj.1),.int .i64 rj.2.1,.bool sv] 77));have HRB1:=Aside0.mk (blk_alloc HRB.out (.cells #[.map (some rj.1),.int .i64 rj.2.1,.bool sv] 77));have HB1:=Aside0.mk (below_alloc HB3.out (.cells #[.map (some rj.1),.int .i64 rj.2.1,.bool sv] 77));have hx2:=blk_cell (blk_new wx (.cells #[.map (some rj.1),.int .i64 rj.2.1,.bool sv] 77)) 2;have FIN:=Aside0.mk (show ∀ v,v=(sb||sv)→Aside0 (((wx.alloc (.cells #[.map (some rj.1),.int .i64 rj.2.1,.bool sv] 77)).setCell ⟨rb,2,none⟩ (.bool v)).heap[rb]? =some (.cells #[.map none,.int .i64 (resFrom i ND),.bool (op.f0==9||(ND.take (j+1)).any RS.sv)] 77 (0,0)))∧Aside0 (((wx.alloc (.cells #[.map (some rj.1),.int .i64 rj.2.1,.bool sv] 77)).setCell ⟨rb,2,none⟩ (.bool v)).heap[wr.heap.size]? =some (.cells #[.int .i64 op.f0,.slice A1 op.f1.length c1,.slice A2 op.f2.f0.length c2,.slice A3 op.f2.f1.length c3,.slice A4' op.f3.length c4',.string op.f4,.bool op.f5] 43 (0,0)))∧Aside0 (Below wr.heap.size wr ((wx.alloc (.cells #[.map (some rj.1),.int .i64 rj.2.1,.bool sv] 77)).setCell ⟨rb,2,none⟩ (.bool v)))from by
        intro v hv;refine⟨⟨?_⟩,⟨blk_far HBK1.out (by have:=HW2.out;simp;omega) _⟩,⟨below_set HB1.out (by have:=HW2.out;omega)⟩⟩;rw[HANY.out,← Bool.or_assoc,HSB.out,← hv];exact blk_set HRB1.out 2 _)
       have hk0:=blk_cell HBK1.out 0;have hr2:=blk_cell HRB1.out 2;have hz2:=blk_frozen HRB1.out 2;clear HBK HRB HB3;by_cases c9:op.f0=9
       ·have c9b:(op.f0==9)=true:=beq_iff_eq.mpr c9;cases sv with
        |true=>
         have hg:=HG.out;rw[if_pos ⟨c9,List.any_eq_true.2 ⟨R,HMEM.out,HRS.out⟩⟩]at hg;obtain rfl:=Option.some.inj hg;clear hg HG c9;go_wp2_with fail;go_ret2;exact⟨none,0,[],rfl,Nat.zero_le _,Kd.C_nil _ _,rfl,below_then HB.out HB.out.size HB1.out⟩
        |false=>
         have hsb:=HSB.out;rw[c9b,Bool.true_or]at hsb;subst hsb;clear c9;go_wp2_with fail;go_roundw;case rel=>
          refine⟨j+1,by rw[wrap_nat1 HBIG.out.2.1],⟨HBIG.out.1⟩,⟨fun h_=>?_⟩,FIN.out _ rfl⟩;rw[HANY.out,HSV.out h_];rfl
         case measure=>exact HBIG.out.2.2
       have c9b:(op.f0==9)=false:=beq_eq_false_iff_ne.mpr c9;have C9:=Aside0.mk c9;clear c9;cases sv
       all_goals
        cases sb
        all_goals
         go_wp2_with fail
         go_roundw
         case rel=>exact⟨j+1,by rw[wrap_nat1 HBIG.out.2.1],⟨HBIG.out.1⟩,⟨fun h_=>(C9.out h_).elim⟩,FIN.out _ rfl⟩
         case measure=>exact HBIG.out.2.2
      have j3:decide (j<N)=false:=decide_eq_false cj;have j1:((j:Int)<(N:Int))=False:=eq_false (by omega);have j2:decide ((j:Int)<(N:Int))=false:=decide_eq_false (by omega);have j4:(j<N)=False:=eq_false cj;have hj:j=N:=(by have:=HJ.out;omega);have hln:ND.length=N:=(by rw[← FitS_len HFD.out];exact HNR.out);have htk:ND.take j=ND:=(by rw[hj,← hln,List.take_length]);have hsv:=HSV.out;rw[htk]at hsv;have hrb:=HRB.out;rw[htk]at hrb;have HRB0:=Aside0.mk hrb;have hg:=HG.out;rw[if_neg (fun h_=>by have:=hsv h_.1;rw[h_.2]at this;cases this)]at hg;obtain⟨S,hS,hg⟩:=Option.bind_eq_some_iff.1 hg;have HS:=Aside0.mk hS;have HG1:=Aside0.mk hg;have HLN:=Aside0.mk hln;clear hj hln htk hsv hrb hg hS HG HRB cj HSV HJ;generalize hsb:(op.f0==9||ND.any RS.sv)=sb at*;have HSB:=Aside0.mk hsb;clear hsb;go_upto_block 4 with (fail)
      go_cut [6] (fun v6 wy=>v6= .int .i64 (resBad op bad ND)∧ ∃ g,Aside0 (MapS wy g S.length S)∧Aside0 (wy.heap[rb]? =some (.cells #[.map (some g),.int .i64 (resFrom i ND),.bool sb] 77 (0,0)))∧Aside0 (Below wr.heap.size wr wy));case first=>
       have hNR:=HNR.out;have hLN:=HLN.out;have hfd:=HFD.out;have hSS:=HS.out;have HB4:=HB3;have HQ1:=Aside0.mk (Kd.C_below Q1.out HB3.out);have HQ2:=Aside0.mk (Kd.C_below Q2.out HB3.out);have HQ3:=Aside0.mk (Kd.C_below Q3.out HB3.out);have hk0:=blk_cell HBK.out 0;have hk1:=blk_cell HBK.out 1;have hk2:=blk_cell HBK.out 2;have hk3:=blk_cell HBK.out 3;have hk4:=blk_cell HBK.out 4;have hk5:=blk_cell HBK.out 5;have hk6:=blk_cell HBK.out 6;have HRW:=Aside0.mk (blk_lt HRB0.out);match ND,NR,hfd,hSS,hLN,hNR with
       | [],[],_,hSS,hLN,_=>
        subst hLN;have HS:=Aside0.mk hSS;clear hSS;go_wp2_with fail;clear hk0 hk1 hk2 hk3 hk4 hk5 hk6;refine(scope_leaf.calls k op.f0 A1 c1 op.f1 A2 c2 op.f2.f0 A3 c3 op.f2.f1 (.slice A4' op.f3.length c4') rfl op.f4 op.f5 S _ HQ1.out HQ2.out HQ3.out HS.out).mono ?_;rintro e w5 ⟨g,rfl,hg,hm,hb⟩;have HRB5:=Aside0.mk (blk_below HRB0.out hb);have HM:=Aside0.mk hm;have HB5:=Aside0.mk (HB4.out.trans (hb.mono HB4.out.size));have hz0:=blk_frozen HRB5.out 0;have hr0:=blk_cell HRB5.out 0;clear hg hm hb;go_wp2_with fail;go_meet;case rel=>exact⟨rfl,g,⟨MapS.set HM.out (MapS.ne HM.out HRB5.out) _⟩,⟨blk_set HRB5.out 0 _⟩,⟨below_set HB5.out (by have:=HW2.out;omega)⟩⟩
       | [a],[r],hfd,hSS,hLN,_=>
        have hfr:=hfd.1;rw[resNames]at hSS;by_cases hcc:a.S.length<4294967296∧op.f4.size≤maxLen;case neg=>rw[if_neg hcc]at hSS;cases hSS
        rw[if_pos hcc]at hSS;obtain rfl:=Option.some.inj hSS;obtain rfl:N=1:=hLN.symm;obtain⟨a6,e6,p0,_,_⟩:=at_R (Kd.C_below HC6.out HB3.out) 0 (Int.le_refl _) (by decide);cases e6
        rw[show rd_R [r] 0=r from rfl]at p0;simp[Addr.add]at p0;have HCC:=Aside0.mk hcc;have HFR:=Aside0.mk hfr.1;(have hz4: ∀ w_,(zeroValue 4).run Tryz.prog w_= .ok (.bool false) w_:=fun w_=>by kernel_rfl);have HBK1:=HBK;have HRB1:=HRB0;have C6:=HC6;clear hSS hfr hcc hLN hfd hNR;go_upto_region 30 with (fail)
        go_cut [15] (fun v15 wy=>v15= .bool (hasB a.S op.f4)∧Aside0 (wy.heap[rb]? =some (.cells #[.map none,.int .i64 (resFrom i [a]),.bool sb] 77 (0,0)))∧Aside0 (wy.heap[wr.heap.size]? =some (.cells #[.int .i64 op.f0,.slice A1 op.f1.length c1,.slice A2 op.f2.f0.length c2,.slice A3 op.f2.f1.length c3,.slice A4' op.f3.length c4',.string op.f4,.bool op.f5] 43 (0,0)))∧Aside0 (Below wr.heap.size wr wy));case first=>
         obtain⟨cv,hlk⟩:=MapS.run_has Tryz.underlying75 (hz4 _) (MapS.below HFR.out (below_drew HB4.out)) HCC.out.2;generalize hasB a.S op.f4=q at*;go_region_held3 (fun w'=>w'.cell? a6=some (.map (some r.1))∧w'.cell? ⟨wr.heap.size,5,none⟩=some (.string op.f4)) (exact⟨by simpa using p0,by simpa using hk5⟩) (fail);go_wp2;go_meet;case rel=>exact⟨rfl,⟨blk_below HRB1.out (below_drew (Below.refl _ _))⟩,⟨blk_below HBK1.out (below_drew (Below.refl _ _))⟩,⟨below_drew HB4.out⟩⟩
        case rest=>
         clear HRB0 HBK HB3 HB4 HRB1 HBK1 p0 hk0 hk1 hk2 hk3 hk4 hk5 hk6 HQ1 HQ2 HQ3;obtain⟨rfl,HRB0,HBK,HB4⟩:=hcut;have hk0:=blk_cell HBK.out 0;obtain⟨a6',e6,p0,_,_⟩:=at_R (Kd.C_below C6.out HB4.out) 0 (Int.le_refl _) (by decide);cases e6
         rw[show rd_R [r] 0=r from rfl]at p0;simp[Addr.add]at p0;have HA6:=Aside0.mk (show a6.block<wr.heap.size by
          obtain⟨_,e_,p_,_,_⟩:=at_R C6.out 0 (Int.le_refl _) (by decide);cases e_
          simp[Addr.add]at p_;exact World.block_lt_of_cell? wr _ p_)
         have HSX:=Aside0.mk (show ∀ w5,Below wc.heap.size wc w5→(w5.cell? a6=some (.map (some r.1))∧w5.cell? ⟨wr.heap.size,0,none⟩=some (.int .i64 op.f0)∧w5.cell? ⟨wr.heap.size,1,none⟩=some (.slice A1 op.f1.length c1)∧w5.cell? ⟨wr.heap.size,2,none⟩=some (.slice A2 op.f2.f0.length c2)∧w5.cell? ⟨wr.heap.size,3,none⟩=some (.slice A3 op.f2.f1.length c3)∧w5.cell? ⟨wr.heap.size,4,none⟩=some (.slice A4' op.f3.length c4')∧w5.cell? ⟨wr.heap.size,5,none⟩=some (.string op.f4)∧w5.cell? ⟨wr.heap.size,6,none⟩=some (.bool op.f5))∧ ∀ v,(w5.setCell ⟨rb,0,none⟩ v).cell? a6=some (.map (some r.1))∧(w5.setCell ⟨rb,0,none⟩ v).cell? ⟨wr.heap.size,0,none⟩=some (.int .i64 op.f0)∧(w5.setCell ⟨rb,0,none⟩ v).cell? ⟨wr.heap.size,1,none⟩=some (.slice A1 op.f1.length c1)∧(w5.setCell ⟨rb,0,none⟩ v).cell? ⟨wr.heap.size,2,none⟩=some (.slice A2 op.f2.f0.length c2)∧(w5.setCell ⟨rb,0,none⟩ v).cell? ⟨wr.heap.size,3,none⟩=some (.slice A3 op.f2.f1.length c3)∧(w5.setCell ⟨rb,0,none⟩ v).cell? ⟨wr.heap.size,4,none⟩=some (.slice A4' op.f3.length c4')∧(w5.setCell ⟨rb,0,none⟩ v).cell? ⟨wr.heap.size,5,none⟩=some (.string op.f4)∧(w5.setCell ⟨rb,0,none⟩ v).cell? ⟨wr.heap.size,6,none⟩=some (.bool op.f5)from fun w5 hb=>by
          have q:=blk_below HBK.out hb;refine⟨⟨pw_cell_below hb p0,blk_cell q 0,blk_cell q 1,blk_cell q 2,blk_cell q 3,blk_cell q 4,blk_cell q 5,blk_cell q 6⟩,fun v=>?_⟩;have q':=blk_far (p:=⟨rb,0,none⟩) q (by have:=HW2.out;simp;omega) v;exact⟨by rw[cell_far (by have:=HA6.out;have:=HW2.out;simp;omega)];exact pw_cell_below hb p0,blk_cell q' 0,blk_cell q' 1,blk_cell q' 2,blk_cell q' 3,blk_cell q' 4,blk_cell q' 5,blk_cell q' 6⟩)
         have HM1:=Aside0.mk (MapS.below HFR.out HB4.out);have hbad: ∃ bd c8,resBad op bad [a]=bd∧(op.f0==8)=c8∧bd=if hasB a.S op.f4 && c8 then 6 else bad:=⟨_,_,rfl,rfl,by
          rw[resBad];by_cases c8:op.f0=8<;>cases hasB a.S op.f4<;>simp[c8]⟩
         obtain⟨bd,c8,h1_,c8b,h2_⟩:=hbad;have H1_:=Aside0.mk h1_;clear h1_;generalize hasB a.S op.f4=q at*;cases q
         ·clear c8b;subst h2_;go_wp2_with fail;go_region_held3 (fun w'=>w'.cell? a6=some (.map (some r.1))∧w'.cell? ⟨wr.heap.size,0,none⟩=some (.int .i64 op.f0)∧w'.cell? ⟨wr.heap.size,1,none⟩=some (.slice A1 op.f1.length c1)∧w'.cell? ⟨wr.heap.size,2,none⟩=some (.slice A2 op.f2.f0.length c2)∧w'.cell? ⟨wr.heap.size,3,none⟩=some (.slice A3 op.f2.f1.length c3)∧w'.cell? ⟨wr.heap.size,4,none⟩=some (.slice A4' op.f3.length c4')∧w'.cell? ⟨wr.heap.size,5,none⟩=some (.string op.f4)∧w'.cell? ⟨wr.heap.size,6,none⟩=some (.bool op.f5))
           (first|exact(HSX.out _ (below_drew (Below.refl _ _))).1|exact(HSX.out _ hb').1|exact(HSX.out _ hb').2 _)
           ((go_at_call 28;refine(scope_one.calls op.f0 (.slice A1 op.f1.length c1) (.slice A2 op.f2.f0.length c2) (.slice A3 op.f2.f1.length c3) (.slice A4' op.f3.length c4') ⟨rfl,rfl,rfl,rfl⟩ op.f4 op.f5 r.1 a.S _ (MapS.below HM1.out (below_drew (Below.refl _ _))) HCC.out.1 HCC.out.2).mono ?_;rintro e w5 ⟨g,rfl,_,hm,hb⟩;have hb':=(below_drew (Below.refl wc.heap.size wc)).trans hb;have hz0:=blk_frozen (blk_below HRB0.out hb') 0;have hr0:=blk_cell (blk_below HRB0.out hb') 0))
          have FIN:=Aside0.mk (show Aside0 (MapS (w5.setCell ⟨rb,0,none⟩ (.map (some g))) g (oneL op.f0 op.f4 a.S).length (oneL op.f0 op.f4 a.S))∧Aside0 ((w5.setCell ⟨rb,0,none⟩ (.map (some g))).heap[rb]? =some (.cells #[.map (some g),.int .i64 (resFrom i [a]),.bool sb] 77 (0,0)))∧Aside0 (Below wr.heap.size wr (w5.setCell ⟨rb,0,none⟩ (.map (some g))))from
           ⟨⟨MapS.set hm (MapS.ne hm (blk_below HRB0.out hb')) _⟩,⟨blk_set (blk_below HRB0.out hb') 0 _⟩,⟨below_set (HB4.out.trans (hb'.mono HB4.out.size)) (by have:=HW2.out;simp;omega)⟩⟩)
          clear hm hb hb' hz0 hr0;go_wp2_with fail;go_meet;case rel=>exact⟨by rw[H1_.out];first|done|rfl,g,FIN.out⟩
         cases c8
         all_goals
          subst h2_
          go_wp2_with fail
          go_region_held3 (fun w'=>w'.cell? a6=some (.map (some r.1))∧w'.cell? ⟨wr.heap.size,0,none⟩=some (.int .i64 op.f0)∧w'.cell? ⟨wr.heap.size,1,none⟩=some (.slice A1 op.f1.length c1)∧w'.cell? ⟨wr.heap.size,2,none⟩=some (.slice A2 op.f2.f0.length c2)∧w'.cell? ⟨wr.heap.size,3,none⟩=some (.slice A3 op.f2.f1.length c3)∧w'.cell? ⟨wr.heap.size,4,none⟩=some (.slice A4' op.f3.length c4')∧w'.cell? ⟨wr.heap.size,5,none⟩=some (.string op.f4)∧w'.cell? ⟨wr.heap.size,6,none⟩=some (.bool op.f5))
           (first|exact(HSX.out _ (below_drew (Below.refl _ _))).1|exact(HSX.out _ hb').1|exact(HSX.out _ hb').2 _)
           ((go_at_call 28;refine(scope_one.calls op.f0 (.slice A1 op.f1.length c1) (.slice A2 op.f2.f0.length c2) (.slice A3 op.f2.f1.length c3) (.slice A4' op.f3.length c4') ⟨rfl,rfl,rfl,rfl⟩ op.f4 op.f5 r.1 a.S _ (MapS.below HM1.out (below_drew (Below.refl _ _))) HCC.out.1 HCC.out.2).mono ?_;rintro e w5 ⟨g,rfl,_,hm,hb⟩;have hb':=(below_drew (Below.refl wc.heap.size wc)).trans hb;have hz0:=blk_frozen (blk_below HRB0.out hb') 0;have hr0:=blk_cell (blk_below HRB0.out hb') 0))
          have FIN:=Aside0.mk (show Aside0 (MapS (w5.setCell ⟨rb,0,none⟩ (.map (some g))) g (oneL op.f0 op.f4 a.S).length (oneL op.f0 op.f4 a.S))∧Aside0 ((w5.setCell ⟨rb,0,none⟩ (.map (some g))).heap[rb]? =some (.cells #[.map (some g),.int .i64 (resFrom i [a]),.bool sb] 77 (0,0)))∧Aside0 (Below wr.heap.size wr (w5.setCell ⟨rb,0,none⟩ (.map (some g))))from
           ⟨⟨MapS.set hm (MapS.ne hm (blk_below HRB0.out hb')) _⟩,⟨blk_set (blk_below HRB0.out hb') 0 _⟩,⟨below_set (HB4.out.trans (hb'.mono HB4.out.size)) (by have:=HW2.out;simp;omega)⟩⟩)
          clear hm hb hb' hz0 hr0
          go_wp2_with fail
          go_meet
          case rel=>exact⟨by rw[H1_.out];first|done|rfl,g,FIN.out⟩
       | [a,b],[r,q],hfd,hSS,hLN,_=>
        have hfr:=hfd.1;have hfq:=hfd.2.1;rw[resNames]at hSS;by_cases hcc:a.S.length+b.S.length<4294967296;case neg=>rw[if_neg hcc]at hSS;cases hSS
        rw[if_pos hcc]at hSS;obtain rfl:=Option.some.inj hSS;obtain rfl:N=2:=hLN.symm;obtain⟨a6,e6,p0,_,_⟩:=at_R (Kd.C_below HC6.out HB3.out) 0 (Int.le_refl _) (by decide);cases e6
        rw[show rd_R [r,q] 0=r from rfl]at p0;simp[Addr.add]at p0;obtain⟨a6',e6,p1,_,_⟩:=at_R (Kd.C_below HC6.out HB3.out) 1 (by decide) (by decide);cases e6
        rw[show rd_R [r,q] 1=q from rfl]at p1;simp[Addr.add]at p1;have HA6:=Aside0.mk (show a6.block<wr.heap.size by
         obtain⟨_,e_,p_,_,_⟩:=at_R HC6.out 0 (Int.le_refl _) (by decide);cases e_
         simp[Addr.add]at p_;exact World.block_lt_of_cell? wr _ p_)
        have HCC:=Aside0.mk hcc;have HM1:=Aside0.mk (MapS.below hfr.1 HB3.out);have HM2:=Aside0.mk (MapS.below hfq.1 HB3.out);have HRB0':=HRB0;have HSX:=Aside0.mk (show ∀ w5,Below wx.heap.size wx w5→(w5.cell? a6=some (.map (some r.1))∧w5.cell? ⟨a6.block,a6.off+3,none⟩=some (.map (some q.1))∧w5.cell? ⟨wr.heap.size,0,none⟩=some (.int .i64 op.f0)∧w5.cell? ⟨wr.heap.size,1,none⟩=some (.slice A1 op.f1.length c1)∧w5.cell? ⟨wr.heap.size,2,none⟩=some (.slice A2 op.f2.f0.length c2)∧w5.cell? ⟨wr.heap.size,3,none⟩=some (.slice A3 op.f2.f1.length c3)∧w5.cell? ⟨wr.heap.size,4,none⟩=some (.slice A4' op.f3.length c4')∧w5.cell? ⟨wr.heap.size,5,none⟩=some (.string op.f4)∧w5.cell? ⟨wr.heap.size,6,none⟩=some (.bool op.f5))∧ ∀ v,(w5.setCell ⟨rb,0,none⟩ v).cell? a6=some (.map (some r.1))∧(w5.setCell ⟨rb,0,none⟩ v).cell? ⟨a6.block,a6.off+3,none⟩=some (.map (some q.1))∧(w5.setCell ⟨rb,0,none⟩ v).cell? ⟨wr.heap.size,0,none⟩=some (.int .i64 op.f0)∧(w5.setCell ⟨rb,0,none⟩ v).cell? ⟨wr.heap.size,1,none⟩=some (.slice A1 op.f1.length c1)∧(w5.setCell ⟨rb,0,none⟩ v).cell? ⟨wr.heap.size,2,none⟩=some (.slice A2 op.f2.f0.length c2)∧(w5.setCell ⟨rb,0,none⟩ v).cell? ⟨wr.heap.size,3,none⟩=some (.slice A3 op.f2.f1.length c3)∧(w5.setCell ⟨rb,0,none⟩ v).cell? ⟨wr.heap.size,4,none⟩=some (.slice A4' op.f3.length c4')∧(w5.setCell ⟨rb,0,none⟩ v).cell? ⟨wr.heap.size,5,none⟩=some (.string op.f4)∧(w5.setCell ⟨rb,0,none⟩ v).cell? ⟨wr.heap.size,6,none⟩=some (.bool op.f5)from fun w5 hb=>by
         have q_:=blk_below HBK.out hb;refine⟨⟨pw_cell_below hb p0,pw_cell_below hb p1,blk_cell q_ 0,blk_cell q_ 1,blk_cell q_ 2,blk_cell q_ 3,blk_cell q_ 4,blk_cell q_ 5,blk_cell q_ 6⟩,fun v=>?_⟩;have q':=blk_far (p:=⟨rb,0,none⟩) q_ (by have:=HW2.out;simp;omega) v;exact⟨by rw[cell_far (by have:=HA6.out;have:=HW2.out;simp;omega)];exact pw_cell_below hb p0,by rw[cell_far (by have:=HA6.out;have:=HW2.out;simp;omega)];exact pw_cell_below hb p1,blk_cell q' 0,blk_cell q' 1,blk_cell q' 2,blk_cell q' 3,blk_cell q' 4,blk_cell q' 5,blk_cell q' 6⟩)
        clear hSS hfr hfq hcc hLN hfd hNR p0 p1 hk0 hk1 hk2 hk3 hk4 hk5 hk6 HQ1 HQ2 HQ3;go_wp2_with fail;go_region_held3 (fun w'=>w'.cell? a6=some (.map (some r.1))∧w'.cell? ⟨a6.block,a6.off+3,none⟩=some (.map (some q.1))∧w'.cell? ⟨wr.heap.size,0,none⟩=some (.int .i64 op.f0)∧w'.cell? ⟨wr.heap.size,1,none⟩=some (.slice A1 op.f1.length c1)∧w'.cell? ⟨wr.heap.size,2,none⟩=some (.slice A2 op.f2.f0.length c2)∧w'.cell? ⟨wr.heap.size,3,none⟩=some (.slice A3 op.f2.f1.length c3)∧w'.cell? ⟨wr.heap.size,4,none⟩=some (.slice A4' op.f3.length c4')∧w'.cell? ⟨wr.heap.size,5,none⟩=some (.string op.f4)∧w'.cell? ⟨wr.heap.size,6,none⟩=some (.bool op.f5))
         (first|exact(HSX.out _ (below_drew (Below.refl _ _))).1|exact(HSX.out _ hb').1|exact(HSX.out _ hb').2 _)
         ((go_at_call 29;refine(scope_two.calls op.f0 (.slice A1 op.f1.length c1) (.slice A2 op.f2.f0.length c2) (.slice A3 op.f2.f1.length c3) (.slice A4' op.f3.length c4') ⟨rfl,rfl,rfl,rfl⟩ op.f4 op.f5 r.1 q.1 a.S b.S _ (MapS.below HM1.out (below_drew (Below.refl _ _))) (MapS.below HM2.out (below_drew (Below.refl _ _))) HCC.out).mono ?_;rintro e w5 ⟨g,rfl,hm,hb⟩;have hb':=(below_drew (Below.refl wx.heap.size wx)).trans hb;have hz0:=blk_frozen (blk_below HRB0.out hb') 0;have hr0:=blk_cell (blk_below HRB0.out hb') 0))
        have FIN:=Aside0.mk (show Aside0 (MapS (w5.setCell ⟨rb,0,none⟩ (.map (some g))) g (twoL op.f0 a.S b.S).length (twoL op.f0 a.S b.S))∧Aside0 ((w5.setCell ⟨rb,0,none⟩ (.map (some g))).heap[rb]? =some (.cells #[.map (some g),.int .i64 (resFrom i [a,b]),.bool sb] 77 (0,0)))∧Aside0 (Below wr.heap.size wr (w5.setCell ⟨rb,0,none⟩ (.map (some g))))from
         ⟨⟨MapS.set hm (MapS.ne hm (blk_below HRB0.out hb')) _⟩,⟨blk_set (blk_below HRB0.out hb') 0 _⟩,⟨below_set (HB4.out.trans (hb'.mono HB4.out.size)) (by have:=HW2.out;simp;omega)⟩⟩)
        clear hm hb hb' hz0 hr0;go_wp2_with fail;go_meet;case rel=>exact⟨rfl,g,FIN.out⟩
       |_::_::_::_,_,_,hSS,_,_=>cases hSS
      case rest=>
       obtain⟨rfl,g,HM,HRB,HB4⟩:=hcut;clear HRB0 HBK HB3;have hdef:lrs.length - N≤lrs.length∧lrs.length<128:=(by have:=HE.out.2.2;have:=C128.out;have:=CI.out;omega);have hsub:=sub_nat HNL.out (show lrs.length<9223372036854775807 by omega);have hsub2:IntKind.i64.wrap ((lrs.length:Int) - (N:Int))=((lrs.length - N:Nat):Int):=(by rw[i64_w];exact hsub);have HM0:=Aside0.mk hdef;have HG2:=Aside0.mk (show resGo k (i+1) (l0.drop (i+1)) (outs++ [resFrom i ND]) (L.take (lrs.length - N)++ [⟨S,resFrom i ND,sb⟩]) (resBad op bad ND)=some r0 by
        have h_:=HG1.out;rwa[← HFL.out]at h_)
       have HF1:=Aside0.mk (FitS_take (FitS_below HF.out HB4.out) (lrs.length - N));have HT:=Aside0.mk (Kd.R_take (Kd.R_below HL.out HB4.out) hdef.1);have HO1:=Aside0.mk (Kd.R_below HO.out HB4.out);have HBw:=Aside0.mk (below_then HB.out HB.out.size HB4.out);have HNE:=Aside0.mk (show ∀ v_:Value,(∀ k_,v_.ownBlock=some k_→k_<wr.heap.size)→some rb≠v_.ownBlock from fun v_ h_ e_=>by have:=h_ _ e_.symm;have:=HW2.out;omega);have HLT:=Aside0.mk (Kd.R_lt HL.out);have HLT4:=Aside0.mk (Kd.R_lt HO.out);have hr0:=blk_cell HRB.out 0;have hr1:=blk_cell HRB.out 1;have hr2:=blk_cell HRB.out 2;have d0:(0:Int)≤((lrs.length - N:Nat):Int):=Int.natCast_nonneg _;have d1:((lrs.length - N:Nat):Int)≤(lrs.length:Int):=(by omega);have d2':((lrs.length - N:Nat):Int)≤(c5:Int):=(by have:=HLC.out;omega);have HDD:=Aside0.mk hdef;clear hdef HG1 HSB;generalize hM:lrs.length - N=M at*;clear hM;have HTD:=Aside0.mk (Kd.R_drew HT.out);have hown:(Value.slice A5 M c5).ownBlock=(Value.slice A5 lrs.length c5).ownBlock:=by cases A5<;>rfl
       have HLTM:=Aside0.mk (show ∀ k_,(Value.slice A5 M c5).ownBlock=some k_→k_<wr.heap.size from fun k_ hk=>HLT.out k_ (hown ▸ hk));have HOD:=Aside0.mk (Kd.R_drew (show Kd.R k86 77 wc w.heap.size (fun q=>True∧some q≠ (Value.slice A5 M c5).ownBlock) (.slice A4 ors.length c4) ors by rw[hown];exact HO1.out));have HTY:=Aside0.mk (Kd.R_typed HTD.out);have hc3:w.heap.size≤wc.heap.size:=HBw.out.size;clear hown HT HO1 HLT;go_upto_region 31 with (fail)
       go_cut [5] (fun v5 w1=>Aside0 (Kd.R k86 77 w1 w.heap.size (fun q=>True∧some q≠ (Value.slice A4 ors.length c4).ownBlock) v5 (lrs.take M++ [(g,resFrom i ND,sb)]))∧Aside0 (Kd.R k86 77 w1 w.heap.size (fun q=>True∧some q≠v5.ownBlock) (.slice A4 ors.length c4) ors)∧Aside0 (FitS w1 (lrs.take M) (L.take M))∧Aside0 (MapS w1 g S.length S)∧Aside0 (w1.heap[rb]? =some (.cells #[.map (some g),.int .i64 (resFrom i ND),.bool sb] 77 (0,0)))∧Aside0 (Below w.heap.size w w1));case first=>
        go_region_held3 (fun w'=>w'.cell? ⟨rb,0,none⟩=some (.map (some g))∧w'.cell? ⟨rb,1,none⟩=some (.int .i64 (resFrom i ND))∧w'.cell? ⟨rb,2,none⟩=some (.bool sb))
         (first|exact⟨by simpa using hr0,by simpa using hr1,by simpa using hr2⟩|exact⟨blk_cell (blk_alloc (blk_below HRB.out (below_drew (Below.refl _ _))) _) 0,blk_cell (blk_alloc (blk_below HRB.out (below_drew (Below.refl _ _))) _) 1,blk_cell (blk_alloc (blk_below HRB.out (below_drew (Below.refl _ _))) _) 2⟩|exact⟨blk_cell hblk 0,blk_cell hblk 1,blk_cell hblk 2⟩)
         ((refine Kd.R_append_step k86 (w0:=w) w.heap.size (by rfl) (.tmp 123) (.tmp 125) 58 77 (.agg #[.map none,.int .i64 0,.bool false]) 24 rfl Tryz.underlying58 info86 rfl (by decide) (by decide) (.slice A5 M c5) (lrs.take M) (g,resFrom i ND,sb) _ (fun q=>True∧some q≠ (Value.slice A4 ors.length c4).ownBlock) (fun _=>False) rfl rfl (k86_mkM _ _ _ _) (fun _ hk=>hk.elim) (fun k_ hk=>⟨trivial,fun e_=>by have:=HLT4.out _ e_.symm;have:=HB4.out.size;simp at hk;omega⟩) HTD.out (below_drew HBw.out) (by simpa using hc3) (by rw[List.length_take];have:=HDD.out;omega) ?_;intro v1 w1 ho hb hg hat;have hblk:=blk_grown (blk_below HRB.out (below_drew (Below.refl _ _))) hg (HNE.out _ HLTM.out)))
        have FIN:=Aside0.mk (show Aside0 (Kd.R k86 77 w1 w.heap.size (fun q=>True∧some q≠ (Value.slice A4 ors.length c4).ownBlock) v1 (lrs.take M++ [(g,resFrom i ND,sb)]))∧Aside0 (Kd.R k86 77 w1 w.heap.size (fun q=>True∧some q≠v1.ownBlock) (.slice A4 ors.length c4) ors)∧Aside0 (FitS w1 (lrs.take M) (L.take M))∧Aside0 (MapS w1 g S.length S)∧Aside0 (w1.heap[rb]? =some (.cells #[.map (some g),.int .i64 (resFrom i ND),.bool sb] 77 (0,0)))∧Aside0 (Below w.heap.size w w1)from
         have hty: ∀ k_,(Value.slice A5 M c5).ownBlock=some k_→ ∃ cells t,wc.drew.heap[k_]? =some (.cells cells t (0,0)):=fun k_ hk=>by obtain⟨cells,h_⟩:=HTY.out k_ hk;exact⟨cells,_,h_⟩
         ⟨⟨ho⟩,⟨Kd.R_after HOD.out hg hat⟩,⟨FitS_grown hg hty (FitS_below HF1.out (below_drew (Below.refl _ _)))⟩,⟨MapS.grown (MapS.below HM.out (below_drew (Below.refl _ _))) hg (fun e_=>by
          obtain⟨_,_,h_⟩:=hty _ e_.symm;exact MapS.ne (MapS.below HM.out (below_drew (Below.refl _ _))) h_ rfl)⟩,⟨hblk⟩,⟨hb⟩⟩)
        clear ho hb hg hat hblk;go_wp2_with fail;go_meet;case rel=>exact FIN.out
       case rest=>
        obtain⟨HL2,HO2,HF2,HM2,HRB2,HB5⟩:=hcut;clear HRB HM HBw HTD HOD HTY HF1 hr0 hr1 hr2 hc3 hsub hsub2 d0 d1 d2';have hr0:=blk_cell HRB2.out 0;have hr1:=blk_cell HRB2.out 1;have hr2:=blk_cell HRB2.out 2;have HTY:=Aside0.mk (Kd.R_typed HO2.out);have HLTL:=Aside0.mk (Kd.R_lt HL2.out);go_wp2_with ((with_reducible refine gate_builtin (b:= .append) (xs:= #[.tmp 127,.tmp 129]) rfl ?_);at_builtin;refine Kd.R_append k86 (w0:=w) w.heap.size rfl (.tmp 127) (.tmp 129) 58 77 (.agg #[.map none,.int .i64 0,.bool false]) 24 rfl Tryz.underlying58 info86 rfl (by decide) (by decide) (.slice A4 ors.length c4) ors (g,resFrom i ND,sb) _ (fun q=>True∧some q≠u5.ownBlock) (fun _=>False) rfl rfl (k86_mkM _ _ _ _) (fun _ hk=>hk.elim) (fun k_ hk=>⟨trivial,fun e_=>by have:=HLTL.out _ e_.symm;omega⟩) HO2.out HB5.out HB5.out.size (by have:=HE.out.2;have:=HDD.out;have:=CI.out;have:=C128.out;omega) ?_;intro v2 w2 ho hb hg hat);go_roundw;case rel=>
         (have hty: ∀ k_,(Value.slice A4 ors.length c4).ownBlock=some k_→ ∃ cells t,wc.heap[k_]? =some (.cells cells t (0,0)):=fun k_ hk=>by obtain⟨cells,h_⟩:=HTY.out k_ hk;exact⟨cells,_,h_⟩);have hce:=HE.out;have hci:=CI.out;have hcd:=HDD.out;have h128:=C128.out;refine⟨i+1,_,_,_,ors++ [(g,resFrom i ND,sb)],lrs.take M++ [(g,resFrom i ND,sb)],by rw[wrap_nat1 (by omega)],rfl,⟨by omega⟩,HG2,⟨by rw[List.map_append,hce.1];rfl,by simp[hce.2.1],by simp[List.length_take];omega⟩,⟨FitS_snoc ⟨MapS.grown HM2.out hg (fun e_=>by
          obtain⟨_,_,h_⟩:=hty _ e_.symm;exact MapS.ne HM2.out h_ rfl),rfl,rfl⟩ (FitS_grown hg hty HF2.out)⟩,⟨ho⟩,⟨Kd.R_after HL2.out hg hat⟩,⟨hb⟩⟩
        case measure=>
         have:=CI.out;have:=C128.out;rw[wrap_nat1 (by omega)];simp only[intOf,Int.toNat_natCast];omega
  have hi:i=l0.length:=(by have:=HI.out;omega);have i2:decide ((i:Int)<(l0.length:Int))=false:=decide_eq_false (by omega);have i3:(i<l0.length)=False:=eq_false ci;have i4:((i:Int)<(l0.length:Int))=False:=eq_false (by omega);have hg:=HG.out;have hfl:=FitS_len HF.out;rw[hi,List.drop_length,resGo]at hg;by_cases c1:L.length=1
  ·rw[if_pos c1]at hg;obtain rfl:=Option.some.inj hg;have c1b:((lrs.length:Int)==1)=true:=(by rw[hfl,c1];rfl);have c1c:lrs.length=1:=(by rw[hfl,c1]);clear hg hi ci HG hfl c1;go_wp2_with fail;go_ret2;exact⟨A4,c4,ors,rfl,HLC4.out,HC4.out,HE.out.1,HB.out⟩
  rw[if_neg c1]at hg;obtain rfl:=Option.some.inj hg;have c1b:((lrs.length:Int)==1)=false:=beq_eq_false_iff_ne.mpr (by rw[hfl];omega);have c1c:¬ lrs.length=1:=(by rw[hfl];exact c1);clear hg hi ci HG hfl c1;go_wp2_with fail;go_ret2;exact⟨none,0,[],rfl,Nat.zero_le _,Kd.C_nil _ _,rfl,HB.out⟩
def scope_Check.f (k : Nat) (l0 : List (S43)) : Option Int := (scope_results.f k l0).bind fun r => some r.2
set_option maxHeartbeats 8000000 in
set_option maxRecDepth 1000000 in
theorem scope_Check.calls (k:Nat) (A0:Option Addr) (c0:Nat) (l0:List (S43)) (r:Int) (w:World) (hr0:Kd.C k43 w A0 l0.length l0) (hc0:l0.length≤c0) (h:scope_Check.f k l0=some r):
 Calls Tryz.prog 9 #[.slice A0 l0.length c0] w fun e w'=>e= .returned (.int .i64 r)∧Below w.heap.size w w':=by
 obtain⟨q,hq,h⟩:=Option.bind_eq_some_iff.1 h;obtain rfl:=Option.some.inj h;have HQ:=Aside0.mk hq;have HR:=Aside0.mk hr0;clear hq h hr0;go_enter Tryz.func9,Tryz.ntmps9;go_wp2_with fail;refine(scope_results.calls k A0 c0 l0 q w HR.out hc0 HQ.out).mono ?_;rintro e w1 ⟨A,c,rs,rfl,_,_,_,hb⟩;go_wp2_with fail;go_ret;exact⟨rfl,hb⟩
end Go.Proofs.YtcfoebkbahpnaaaGreat.Hd
