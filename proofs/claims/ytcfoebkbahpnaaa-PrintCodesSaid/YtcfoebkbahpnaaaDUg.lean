/- What the texts of codes come to: the program's loop, the reference's recursion; the law. -/
import Derived.Test.YtcfoebkbahpnaaaDUf
namespace Go.Proofs.Ytcfoebkbahpnaaa.L
open Go.RowKit Go.Lib Go.Proofs.Ytcfoebkbahpnaaa Go.Proofs.YtcfoebkbahpnaaaW.PrintWords Go.Proofs.YtcfoebkbahpnaaaW.PrintLast
set_option linter.unusedVariables false
set_option linter.unusedSimpArgs false

/-! ### the reference's operations -/
theorem rone_ev {o:S45} (h:OpF o) (hn:opNeeds o.f0=1) {X:List UInt8} (hs:X.length≤100000000000):
 Ev (fun k=>legationref09_one.f k o.f0 o.f1 o.f2.f0 o.f2.f1 o.f3 o.f4 o.f5 (ofL X)) (ofL (opT o [X])):=by
 have hk:=needs_kinds.1 hn;unfold legationref09_one.f;by_cases h7:o.f0=7
 ·have hc:=h.f (.inl h7);have hz:=(formT_is hc).2.2;refine Ev.yes h7 (Ev.yes ?_ (Ev.yes ?_ (Ev.bind (rform_ev hc) (Ev.yes ?_ (Ev.yes ?_ (Ev.nowE ?_))))));rotate_right
  ·unfold opT;rw[if_neg (by omega),if_neg (by omega),if_neg (by omega),if_neg (by omega),if_neg (by omega),if_neg (by omega),if_pos h7];exact ba_ext (by simp[app_data,ofL_toList,sFilter])
  all_goals first|omega|(simp only[ByteArray.size_append,ofL_size,bsz,List.length_append,List.length_cons,List.length_nil,List.size_toArray];omega)
 refine Ev.no h7 ?_;by_cases h8:o.f0=8
 ·have hc:=h.f (.inr h8);have hz:=(formT_is hc).2.2;have hnm:=h.n (.inl h8);refine Ev.yes h8 (Ev.yes ?_ (Ev.yes ?_ (Ev.bind (rform_ev hc) (Ev.yes ?_ (Ev.yes ?_ (Ev.yes ?_ (Ev.yes ?_ (Ev.nowE ?_))))))));rotate_right
  ·unfold opT;rw[if_neg (by omega),if_neg (by omega),if_neg (by omega),if_neg (by omega),if_neg (by omega),if_neg (by omega),if_neg h7,if_pos h8];exact ba_ext (by simp[app_data,ofL_toList])
  all_goals first|omega|(simp only[ByteArray.size_append,ofL_size,bsz,List.length_append,List.length_cons,List.length_nil,List.size_toArray];omega)
 refine Ev.no h8 ?_;have hnm:=h.n (.inr (by omega));by_cases h9:o.f5=true
 ·refine Ev.yes h9 (Ev.yes ?_ (Ev.yes ?_ (Ev.yes ?_ (Ev.yes ?_ (Ev.nowE ?_)))));rotate_right
  ·unfold opT;rw[if_neg (by omega),if_neg (by omega),if_neg (by omega),if_neg (by omega),if_neg (by omega),if_neg (by omega),if_neg h7,if_neg h8,if_pos h9];exact ba_ext (by simp[app_data,ofL_toList])
  all_goals first|omega|(simp only[ByteArray.size_append,ofL_size,bsz,List.length_append,List.length_cons,List.length_nil,List.size_toArray];omega)
 refine Ev.no h9 (Ev.yes ?_ (Ev.yes ?_ (Ev.yes ?_ (Ev.yes ?_ (Ev.nowE ?_)))));rotate_right
 ·unfold opT;rw[if_neg (by omega),if_neg (by omega),if_neg (by omega),if_neg (by omega),if_neg (by omega),if_neg (by omega),if_neg h7,if_neg h8,if_neg h9];exact ba_ext (by simp[app_data,ofL_toList])
 all_goals first|omega|(simp only[ByteArray.size_append,ofL_size,bsz,List.length_append,List.length_cons,List.length_nil,List.size_toArray];omega)
theorem rtwo_ev {o:S45} (h:OpF o) (hn:opNeeds o.f0=2) {X Y:List UInt8} (hs:X.length+Y.length≤100000000000):
 Ev (fun k=>legationref09_two.f k o.f0 o.f1 o.f2.f0 o.f2.f1 o.f3 o.f4 o.f5 (ofL X) (ofL Y)) (ofL (opT o [X,Y])):=by
 have hk:=needs_kinds.2.1 hn;unfold legationref09_two.f;by_cases h4:o.f0=4
 ·refine Ev.yes h4 (Ev.yes ?_ (Ev.yes ?_ (Ev.yes ?_ (Ev.yes ?_ (Ev.nowE ?_)))));rotate_right
  ·unfold opT;rw[if_neg (by omega),if_neg (by omega),if_neg (by omega),if_pos h4];exact ba_ext (by simp[app_data,ofL_toList])
  all_goals first|omega|(simp only[ByteArray.size_append,ofL_size,bsz,List.length_append,List.length_cons,List.length_nil,List.size_toArray];omega)
 refine Ev.no h4 ?_;by_cases h6:o.f0=6
 ·refine Ev.yes h6 (Ev.yes ?_ (Ev.yes ?_ (Ev.yes ?_ (Ev.yes ?_ (Ev.nowE ?_)))));rotate_right
  ·unfold opT;rw[if_neg (by omega),if_neg (by omega),if_neg (by omega),if_neg h4,if_pos h6];exact ba_ext (by simp[app_data,ofL_toList])
  all_goals first|omega|(simp only[ByteArray.size_append,ofL_size,bsz,List.length_append,List.length_cons,List.length_nil,List.size_toArray];omega)
 refine Ev.no h6 ?_;by_cases h5:o.f0=5
 ·refine Ev.yes h5 ?_;rcases h.e h5 with he|⟨he,hc⟩
  ·refine Ev.yes (by rw[he];rfl) (Ev.yes ?_ (Ev.yes ?_ (Ev.yes ?_ (Ev.yes ?_ (Ev.nowE ?_)))));rotate_right
   ·unfold opT;rw[if_neg (by omega),if_neg (by omega),if_neg (by omega),if_neg h4,if_neg h6,if_pos h5,if_pos he];exact ba_ext (by simp[app_data,ofL_toList,sOpt])
   all_goals
    simp only[ByteArray.size_append,ofL_size,bsz,List.length_append,List.length_cons,List.length_nil,List.size_toArray]
    omega
  have hz:=(formT_is hc).2.2;have hp:0<o.f3.length:=List.length_pos_iff.2 he;refine Ev.no (by omega) (Ev.yes ?_ (Ev.yes ?_ (Ev.yes ?_ (Ev.yes ?_ (Ev.bind (rform_ev hc) (Ev.yes ?_ (Ev.yes ?_ (Ev.nowE ?_))))))));rotate_right
  ·unfold opT;rw[if_neg (by omega),if_neg (by omega),if_neg (by omega),if_neg h4,if_neg h6,if_pos h5,if_neg he];exact ba_ext (by simp[app_data,ofL_toList,sOpt,sFilter])
  all_goals
   simp only[ByteArray.size_append,ofL_size,bsz,List.length_append,List.length_cons,List.length_nil,List.size_toArray]
   omega
 refine Ev.no h5 (Ev.yes ?_ (Ev.yes ?_ (Ev.yes ?_ (Ev.yes ?_ (Ev.nowE ?_)))));rotate_right
 ·unfold opT;rw[if_neg (by omega),if_neg (by omega),if_pos (by omega)];exact ba_ext (by simp[app_data,ofL_toList])
 all_goals
  simp only[ByteArray.size_append,ofL_size,bsz,List.length_append,List.length_cons,List.length_nil,List.size_toArray]
  omega
/-! ### codes -/
def codeP : List S45 → List (List UInt8) → List (List UInt8)
  | [], l => l
  | o :: r, l => codeP r (l.take (l.length - (opNeeds o.f0).toNat) ++ [opT o (l.drop (l.length - (opNeeds o.f0).toNat))])
def okRun : Nat → List S45 → Prop
  | n, [] => n = 1
  | n, o :: r => opOK o = true ∧ opNeeds o.f0 ≤ (n : Int) ∧ okRun (n - (opNeeds o.f0).toNat + 1) r
theorem resP_run: ∀ (r:List S45) (i:Nat) (out:List Int) (l:List RS) (bad:Int) (outs:List Int),resP i r out l bad=(outs,0)→okRun l.length r
 | [],i,out,l,bad,outs,h=>by
  unfold resP at h;by_cases c:l.length=1
  ·exact c
  rw[if_neg c]at h;cases h
 |o::r,i,out,l,bad,outs,h=>by
  unfold resP at h;cases hok:opOK o with
  |false=>rw[if_pos hok]at h;cases h
  |true=>
   rw[if_neg (by rw[hok];simp)]at h;have hn:=opOK_needs hok;by_cases c:(l.length:Int)<opNeeds o.f0
   ·rw[if_pos c]at h;cases h
   rw[if_neg c]at h;split at h
   ·cases h
   have:=resP_run r _ _ _ _ _ h;rw[List.length_append,List.length_take,List.length_singleton,Nat.min_eq_left (Nat.sub_le _ _)]at this;exact⟨hok,by omega,this⟩
theorem code_step {o:S45} {r:List S45} {l:List (List UInt8)} (hc:okRun l.length (o::r)):
 opOK o=true∧ ∃ N:Nat,opNeeds o.f0=(N:Int)∧N≤l.length∧N≤2∧(l.drop (l.length - N)).length=N∧okRun (l.take (l.length - N)++ [opT o (l.drop (l.length - N))]).length r∧codeP (o::r) l=codeP r (l.take (l.length - N)++ [opT o (l.drop (l.length - N))])∧lsz (l.take (l.length - N)++ [opT o (l.drop (l.length - N))])≤lsz l+50000000∧lsz (l.drop (l.length - N))≤lsz l:=by
 obtain⟨hok,hle,hr⟩:=hc;have hn:=opOK_needs hok;have h2:=(opNeeds_le o.f0).2;obtain⟨N,hN⟩: ∃ N:Nat,opNeeds o.f0=(N:Int):=⟨(opNeeds o.f0).toNat,by omega⟩;have hd:(l.drop (l.length - N)).length=N:=(by rw[List.length_drop];omega);have hsp:lsz (l.take (l.length - N))+lsz (l.drop (l.length - N))=lsz l:=(by rw[← lsz_append,List.take_append_drop]);have hT:=opT_len (opF_of hok) (l.drop (l.length - N));refine⟨hok,N,hN,by omega,by omega,hd,?_,?_,?_,by omega⟩
 ·rw[List.length_append,List.length_take,List.length_singleton,Nat.min_eq_left (Nat.sub_le _ _)];rw[hN,Int.toNat_natCast]at hr;exact hr
 ·rw[codeP,hN,Int.toNat_natCast]
 rw[lsz_append];simp only[lsz,List.map_cons,List.map_nil,List.sum_cons,List.sum_nil]at hT hsp ⊢;omega
theorem code_ne {o:S45} {l:List (List UInt8)} {N:Nat} (h: ∀ x ∈ l,x≠ []): ∀ x ∈ l.take (l.length - N)++ [opT o (l.drop (l.length - N))],x≠ []:=fun x hx=>by
 rcases List.mem_append.1 hx with hx|hx
 ·exact h x (List.mem_of_mem_take hx)
 rw[List.mem_singleton]at hx;rw[hx];exact opT_ne _
theorem code_go: ∀ (r:List S45) (l:List (List UInt8)),okRun l.length r→lsz l+50000000*r.length≤90000000000→(∀ x ∈ l,x≠ [])→
 Ev (fun k=>codeTGo k r (l.map ofL)) ((codeP r l).map ofL)
 | [],l,_,_,_=>by
  simp only[codeTGo,codeP];exact Ev.now _
 |o::r,l,hc,hs,hne=>by
  obtain⟨hok,N,hN,hle,h2,hd,hc2,he,hz,hz2⟩:=code_step hc;simp only[List.length_cons]at hs;simp only[codeTGo];refine Ev.bind (needs_evO o) ?_;rw[hN,List.length_map,Int.toNat_natCast,← List.map_drop,← List.map_take];refine Ev.no (by omega) ?_;refine Ev.bind (optext_ev (opF_of hok) _ (by rw[hd,hN]) (fun x hx=>hne x (List.mem_of_mem_drop hx)) (by omega)) ?_;rw[he];have:=code_go r _ hc2 (by omega) (code_ne hne);rw[List.map_append]at this;exact this
theorem code_one: ∀ (r:List S45) (l:List (List UInt8)),okRun l.length r→(codeP r l).length=1
 | [],l,hc=>hc
 |o::r,l,hc=>by
  obtain⟨hok,N,hN,hle,h2,hd,hc2,he,hz,hz2⟩:=code_step hc;rw[he];exact code_one r _ hc2
/-! ### the reference's recursion -/
def Fr (c : List S45) (t f : Nat) : Prop := f ≤ t ∧ dep c f + 1 = dep c (t + 1) ∧ ∀ j, f < j → j ≤ t → dep c f + 1 ≤ dep c j
theorem Fr_one {c:List S45} {t f g:Nat} (hf:Fr c t f) (hg:Fr c t g):f=g:=by
 obtain⟨h1,h2,h3⟩:=hf;obtain⟨g1,g2,g3⟩:=hg;rcases Nat.lt_trichotomy f g with h|h|h
 ·have:=h3 g h g1;omega
 ·exact h
 have:=g3 f h h1;omega
/-- the texts of what is open ahead of a place, the last one first -/
def Ent (c : List S45) : List (List UInt8) → Nat → Prop
  | [], i => i = 0
  | X :: r, i => ∃ f, f < i ∧ Fr c (i - 1) f ∧ Ev (fun k => legationref09_At.f k c ((i - 1 : Nat) : Int)) (ofL X) ∧ Ent c r f
theorem drop_end {α:Type} (a b:List α):(a++b).drop ((a++b).length - b.length)=b∧(a++b).take ((a++b).length - b.length)=a:=by
 rw[List.length_append,Nat.add_sub_cancel];exact⟨List.drop_left,List.take_left⟩
theorem ref_step {c:List S45} (hlen:c.length≤128) (hF: ∀ t,t<c.length→ ∃ F,FromAt c t F) {i:Nat} {o:S45} {r:List S45} (hd:c.drop i=o::r) {l:List (List UInt8)} {N:Nat} (hok:opOK o=true) (hN:opNeeds o.f0=(N:Int)) (hle:N≤l.length) (hs:lsz l≤90000000000) (hE:Ent c l.reverse i):
 Ent c (l.take (l.length - N)++ [opT o (l.drop (l.length - N))]).reverse (i+1):=by
 obtain⟨hg,hi,hr,ht⟩:=get_of_drop hd z45;have hrd:rd_T45 c (i:Int)=o:=hg;have hdep:=dep_succ hd;rw[hN]at hdep;have h2:=(opNeeds_le o.f0).2;have hop:=opF_of hok;have hk:=needs_kinds (kd:=o.f0);have hw:wrap64 ((i:Int) - 1)=((i:Int) - 1):=(by unfold wrap64;omega);obtain⟨R,rfl⟩: ∃ R,l=R.reverse:=⟨l.reverse,by simp⟩;rw[List.reverse_reverse]at hE;obtain rfl|rfl|rfl:N=0∨N=1∨N=2:=by omega
 ·rw[Nat.sub_zero,List.drop_length,List.take_length,List.reverse_append,List.reverse_reverse];refine⟨i,Nat.lt_succ_self i,⟨Nat.le_refl _,?_,fun j h_ h_'=>by rw[Nat.add_sub_cancel]at h_';omega⟩,?_,hE⟩
  ·rw[Nat.add_sub_cancel];omega
  rw[Nat.add_sub_cancel];refine Ev.step (fun k=>by rw[legationref09_At.f]) ?_;refine Ev.yes (by omega) (Ev.yes (by omega) ?_);simp only[hrd];refine Ev.bind (rneeds_ev _ _ _ _ _ _ _) ?_;refine Ev.yes hN ?_;by_cases c2:o.f0=2
  ·refine Ev.yes c2 ?_;rw[show opT o []=tabT o.f2.f0 o.f2.f1 by unfold opT;rw[if_neg (by omega),if_pos c2]];exact Ev.bind (rtable_ev (hop.b c2)) (Ev.now _)
  refine Ev.no c2 ?_;have c1:o.f0=1:=by rcases hk.2.2 hN with h|h;exact h;exact absurd h c2
  rw[show opT o []=basT o.f1 from if_pos c1];exact Ev.bind (rbasicT_ev _ (hop.a c1).1 (hop.a c1).2) (Ev.now _)
 ·match R,hle,hE,hs with
  | [],hle,_,_=>simp at hle
  |X::R,_,hE,hs=>
   obtain⟨f,hfi,⟨f1,f2,f3⟩,hX,hR⟩:=hE;rw[show(X::R).reverse=R.reverse++ [X]from List.reverse_cons]at hs ⊢;obtain⟨hd1,hd2⟩:=drop_end R.reverse [X];rw[show [X].length=1 from rfl]at hd1 hd2;rw[hd1,hd2,List.reverse_append,List.reverse_reverse];rw[show i - 1+1=i by omega]at f2;have hXl:X.length≤90000000000:=by
    rw[lsz_append]at hs;simp[lsz]at hs;omega
   refine⟨f,by omega,⟨by omega,by rw[Nat.add_sub_cancel];omega,fun j h_ h_'=>?_⟩,?_,hR⟩
   ·rw[Nat.add_sub_cancel]at h_';rcases Nat.lt_or_ge j i with h|h
    ·exact f3 j h_ (by omega)
    rw[show j=i by omega];omega
   rw[Nat.add_sub_cancel];refine Ev.step (fun k=>by rw[legationref09_At.f]) ?_;refine Ev.yes (by omega) (Ev.yes (by omega) ?_);simp only[hrd];refine Ev.bind (rneeds_ev _ _ _ _ _ _ _) ?_;refine Ev.no (by omega) (Ev.yes hN ?_);rw[hw,show((i:Int) - 1)=((i - 1:Nat):Int)by omega];exact Ev.bind hX (Ev.bind (rone_ev hop hN (by omega)) (Ev.now _))
 match R,hle,hE,hs with
 | [],hle,_,_=>simp at hle
 | [_],hle,_,_=>simp at hle
 |Y::X::R,_,hE,hs=>
  obtain⟨f,hfi,hFr,hY,g,hgf,⟨g1,g2,g3⟩,hX,hR⟩:=hE;obtain⟨f1,f2,f3⟩:=hFr;rw[show(Y::X::R).reverse=R.reverse++ [X,Y]by simp]at hs ⊢;obtain⟨hd1,hd2⟩:=drop_end R.reverse [X,Y];rw[show [X,Y].length=2 from rfl]at hd1 hd2;rw[hd1,hd2,List.reverse_append,List.reverse_reverse];rw[show i - 1+1=i by omega]at f2;rw[show f - 1+1=f by omega]at g2;have hXl:X.length+Y.length≤90000000000:=by
   rw[lsz_append]at hs;simp[lsz]at hs;omega
  refine⟨g,by omega,⟨by omega,by rw[Nat.add_sub_cancel];omega,fun j h_ h_'=>?_⟩,?_,hR⟩
  ·rw[Nat.add_sub_cancel]at h_';rcases Nat.lt_or_ge j f with h|h
   ·exact g3 j h_ (by omega)
   rcases Nat.lt_or_ge f j with h2|h2
   ·rcases Nat.lt_or_ge j i with h3|h3
    ·have:=f3 j h2 (by omega);omega
    rw[show j=i by omega];omega
   rw[show j=f by omega];omega
  rw[Nat.add_sub_cancel];refine Ev.step (fun k=>by rw[legationref09_At.f]) ?_;refine Ev.yes (by omega) (Ev.yes (by omega) ?_);simp only[hrd];refine Ev.bind (rneeds_ev _ _ _ _ _ _ _) ?_;refine Ev.no (by omega) (Ev.no (by omega) ?_);obtain⟨F,hFF⟩:=hF (i - 1) (by omega);have hev:=rFrom_ev hlen (by omega) hFF;obtain⟨f',rfl,e1,e2,e3,_⟩:=hFF;obtain rfl:f'=f:=Fr_one ⟨e1,e2,e3⟩ ⟨f1,by rw[show i - 1+1=i by omega];exact f2,f3⟩;rw[hw,show((i:Int) - 1)=((i - 1:Nat):Int)by omega];refine Ev.bind (a:=(f':Int)) ?_ ?_
  ·unfold legationref07_Second.f;rw[hw,show((i:Int) - 1)=((i - 1:Nat):Int)by omega];exact Ev.bind hev (Ev.now _)
  rw[show wrap64 ((f':Int) - 1)=((f' - 1:Nat):Int)by unfold wrap64;omega];exact Ev.bind hX (Ev.bind hY (Ev.bind (rtwo_ev hop hN (by omega)) (Ev.now _)))
theorem ref_go {c:List S45} (hlen:c.length≤128) (hF: ∀ t,t<c.length→ ∃ F,FromAt c t F): ∀ (r:List S45) (i:Nat) (l:List (List UInt8)),c.drop i=r→i≤c.length→okRun l.length r→lsz l+50000000*r.length≤90000000000→Ent c l.reverse i→Ent c (codeP r l).reverse c.length
 | [],i,l,hd,hi,_,_,hE=>by
  have:=len_of_drop hd;rw[show c.length=i by omega];exact hE
 |o::r,i,l,hd,hi,hc,hs,hE=>by
  obtain⟨hg,hi',hr,ht⟩:=get_of_drop hd z45;obtain⟨hok,N,hN,hle,h2,hdl,hc2,he,hz,hz2⟩:=code_step hc;simp only[List.length_cons]at hs;rw[he];exact ref_go hlen hF r (i+1) _ hr (by omega) hc2 (by omega) (ref_step hlen hF hd hok hN hle (by omega) hE)
/-- a right code's text -/
def codeT (c : List S45) : List UInt8 := (codeP c []).getD 0 []
theorem texts_ev {c:List S45} {outs:List Int} (h:resultsP c=(outs,0)):Ev (fun k=>print_code.f k c) (ofL (codeT c))∧Ev (fun k=>legationref09_Code.f k c) (ofL (codeT c)):=by
 obtain⟨_,hlen,hF,hok⟩:=resultsP_inv h;have hrun:okRun ([]:List (List UInt8)).length c:=by
  unfold resultsP at h;rw[if_neg (by omega)]at h;exact resP_run c 0 [] [] 0 outs h
 have h1:=code_one c [] hrun;have hz:lsz ([]:List (List UInt8))+50000000*c.length≤90000000000:=(by simp[lsz];omega);have hP:=code_go c [] hrun hz (fun x hx=>by cases hx);have hE:=ref_go hlen (fun t ht=>⟨_,hF t ht⟩) c 0 [] rfl (Nat.zero_le _) hrun hz rfl;unfold codeT;match hq:codeP c [],h1 with
 | [X],_=>
  rw[hq]at hP hE;obtain⟨f,hf,_,hX,_⟩:=hE;constructor
  ·unfold print_code.f;refine Ev.yes (by omega) (Ev.bind hP (Ev.yes (by simp) (Ev.nowE ?_)));rfl
  unfold legationref09_Code.f;rw[show wrap64 ((c.length:Int) - 1)=((c.length - 1:Nat):Int)by unfold wrap64;omega];exact Ev.bind hX (Ev.now _)
theorem Code_ev (c:List S45) (hb: ∀ o ∈ c,opB o):Ev (fun k=>print_Code.f k c) (if(resultsP c).2=0 then(ofL (codeT c),0)else(⟨#[]⟩,(resultsP c).2)):=by
 unfold print_Code.f;refine Ev.bind (a:=(resultsP c).2) ?_ ?_
 ·unfold scope_Check.f;exact Ev.bind (results_ev c hb) (Ev.now _)
 by_cases h:(resultsP c).2=0
 ·rw[if_pos h];refine Ev.yes h (Ev.bind (texts_ev (outs:=(resultsP c).1) (by rw[← h])).1 (Ev.now _))
 rw[if_neg h];exact Ev.no h (Ev.now _)
def aw_c : List S45 := [⟨1, [], ⟨[], []⟩, [], ⟨#[]⟩, false⟩, ⟨1, [], ⟨[], []⟩, [], ⟨#[]⟩, false⟩, ⟨5, [], ⟨[], []⟩, [], ⟨#[]⟩, false⟩]
theorem aw_res:(resultsP aw_c).2=0:=by decide+kernel
theorem aw_text:codeT aw_c= [123,32,123,32,125,32,79,80,84,73,79,78,65,76,32,123,32,123,32,125,32,125,32,125]:=by decide+kernel
theorem awake_ev:Ev (fun k=>legationlaw09_awake.f k) true:=by
 unfold legationlaw09_awake.f;have hb: ∀ o ∈ aw_c,opB o:=by
  intro o ho;unfold aw_c at ho;simp only[List.mem_cons,List.not_mem_nil,or_false]at ho;rcases ho with rfl|rfl|rfl;all_goals exact⟨by decide,by decide,by decide,fun t ht=>by simp at ht,fun t ht=>by simp at ht⟩
 have h:=Code_ev aw_c hb;rw[if_pos aw_res]at h;refine Ev.bind h ?_;refine Ev.yes rfl ?_;refine Ev.step (fun k=>by rw[legationlaw09_awake.j0]) ?_;refine Ev.nowE ?_;rw[tl,ofL_toList,aw_text];rfl
theorem law_Codes (c:List S45) (hb: ∀ o ∈ c,opB o):Ev (fun k=>legationlaw09_PrintCodes.f k c) true:=by
 unfold legationlaw09_PrintCodes.f;by_cases hbig:24<c.length∧c.length≤128
 ·rw[show legationlaw09_big.f c=some true by
   unfold legationlaw09_big.f;rw[if_pos (by omega),decide_eq_true (by omega)]]
  simp only[Option.bind_some];exact Ev.yes trivial (Ev.bind awake_ev (Ev.now _))
 rw[show legationlaw09_big.f c=some false by
  unfold legationlaw09_big.f;by_cases h:(c.length:Int)>24
  ·rw[if_pos h,decide_eq_false (by omega)]
  rw[if_neg h]]
 simp only[Option.bind_some];refine Ev.no (by simp) (Ev.bind (Code_ev c hb) (Ev.bind (rcheck_ev c fun o ho=>?_) ?_))
 ·have:=(hb o ho).1;omega
 by_cases h:(resultsP c).2=0
 ·rw[if_pos h];refine Ev.yes h.symm (Ev.yes h (Ev.bind (texts_ev (outs:=(resultsP c).1) (by rw[← h])).2 (Ev.yes rfl (Ev.bind awake_ev (Ev.now _)))))
 rw[if_neg h];exact Ev.yes rfl (Ev.no h (Ev.yes (by rw[tl]) (Ev.bind awake_ev (Ev.now _))))
end Go.Proofs.Ytcfoebkbahpnaaa.L
