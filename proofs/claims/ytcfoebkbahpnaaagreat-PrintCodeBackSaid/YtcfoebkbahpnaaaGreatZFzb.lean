import Derived.Test.YtcfoebkbahpnaaaGreatZLi
import Derived.Test.YtcfoebkbahpnaaaGreatZHr
import Derived.Test.YtcfoebkbahpnaaaGreatZHc
import Derived.Test.YtcfoebkbahpnaaaGreatZShelf
import Derived.Test.YtcfoebkbahpnaaaGreatZFb
/- What formula.sign, formula.text, print.of, print.words come to. -/
set_option linter.unusedVariables false
set_option linter.unusedSimpArgs false
namespace Go.Proofs.YtcfoebkbahpnaaaGreat.Ab
open Go Go.Proofs.YtcfoebkbahpnaaaGreat

theorem lit (l:List UInt8):(⟨l.toArray⟩:ByteArray)=ofL l:=rfl
theorem sign_g {kd:Int} (h:0≤kd∧kd<27) (K:ByteArray→Option R):formula_sign.g kd K=K (ofL (sgnT kd)):=by
 obtain⟨k,rfl⟩: ∃ k:Fin 27,kd=((k.val:Nat):Int):=⟨⟨kd.toNat,by omega⟩,by simp;omega⟩;obtain⟨k,hk⟩:=k;match k,hk with
 |0,_|1,_|2,_|3,_|4,_|5,_|6,_|7,_|8,_|9,_|10,_|11,_|12,_|13,_|14,_|15,_|16,_|17,_|18,_|19,_|20,_|21,_|22,_|23,_|24,_|25,_|26,_=>rfl
 |n+27,h=>omega
theorem rd_sl {l:List (List UInt8)} {i:Nat} {K:ByteArray→Option R} (h:i<l.length):rd_s (srow (l.map ofL)) i K=K (ofL (l.getD i [])):=by
 rw[rd_s_ok (s:=ofL (l.getD i []))];rw[List.getElem?_map,List.getElem?_eq_getElem h,List.getD_eq_getElem?_getD,List.getElem?_eq_getElem h];rfl
theorem srow_len (l:List ByteArray):(srow l).length=l.length:=by simp[srow]
theorem ploop_g (pre:List UInt8) (hp:pre.length≤100) (l:List (List UInt8)) (hl:l.length≤16) (hs:lsz l≤100000000) (k1:ByteArray→Option R): ∀ (r:List (List UInt8)) (j m:Nat),l.drop j=r→r.length<m→
 formula_text.l14 m (ofL (pre++comA (l.take j))) (srow (l.map ofL)) (l.length:Int) (j:Int) k1=k1 (ofL (pre++comA l))
 |r,j,0,hd,hm=>by omega
 | [],j,m+1,hd,hm=>by
  have hj:=len_drop hd;rw[formula_text.l14];simp only[bifd];rw[if_neg (by omega),List.take_of_length_le hj]
 |y::r,j,m+1,hd,hm=>by
  obtain⟨hg,hj,hr,ht⟩:=get_drop hd;have hy:l.getD j []=y:=(by rw[List.getD_eq_getElem?_getD,hg];rfl);have ih:=ploop_g pre hp l hl hs k1 r (j+1) m hr (by simpa using hm);have hc:=comA_len (l.take j);have h1:=lsz_take l j;have h2:lsz (l.take (j+1))=lsz (l.take j)+y.length:=(by rw[ht,lsz_append];simp[lsz]);have h3:=lsz_take l (j+1);rw[List.length_take]at hc;rw[formula_text.l14];simp only[bifd2,bifd,srow_len,List.length_map,Int.toNat_natCast,lit];rw[if_pos (by omega),if_pos (by omega),rd_sl hj,hy,wr_succ (by omega)];by_cases hj0:(0:Int)<(j:Int)
  ·rw[if_pos hj0,catL (by simp;omega),catL (by simp;omega)];rw[ht,comA_snoc (by intro e;rw[← List.length_eq_zero_iff,List.length_take]at e;omega)]at ih;rw[← ih];simp
  rw[if_neg hj0,catL (by simp;omega)];(obtain rfl:j=0:=by omega);rw[ht]at ih;rw[← ih];simp[comA]
theorem part_g {p:PartS} {n:Nat} (hn:Fuel n) (hpn:p.lt n) (h:partOK p=true) (l:List (List UInt8)) (hl:(l.length:Int)=fneeds p.f0 p.f3) (hs:lsz l≤100000000) (K:ByteArray→Option R):
 formula_text.g n p.f0 p.f1.f0 p.f1.f1 p.f1.f2 p.f1.f3 p.f2 p.f3 (srow (l.map ofL)) K=K (ofL (partT p l)):=by
 have hk:=part_kind h;have hn1:=part_needs h;have hle:=(fneeds_le p.f0 p.f3).2;have hg:=get2_len l;have hz:=sgnT_len p.f0 (by omega);have hfu:=hn.1;have hc:=comA_len l;have hloop: ∀ k1:ByteArray→Option R,formula_text.l14 n (ofL (sgnT p.f0++ [32,40,32])) (srow (l.map ofL)) (l.length:Int) 0 k1=k1 (ofL (sgnT p.f0++ [32,40,32]++comA l)):=fun k1=>by
  have:=ploop_g (sgnT p.f0++ [32,40,32]) (by simp only[List.length_append,List.length_cons,List.length_nil];omega) l (by omega) hs k1 l 0 n rfl (by omega);simpa [comA]using this
 unfold formula_text.g partT;simp only[bifd,srow_len,List.length_map,lit];by_cases h1:p.f0=1
 ·rw[if_pos h1,if_pos h1,text_g p.f1 hn hpn.1 (by
   have ho:=(part_one h h1).1
   by_cases k2:(T p.f1).k=2
   ·have:=okText_len (okTm_two ho k2).1;have e:(T p.f1).x=p.f1.f1.data.toList:=rfl;rw[e,size_toList]at this;omega
   have:=(okTm_other ho k2).2.2.1
   have e:(T p.f1).x=p.f1.f1.data.toList:=rfl
   rw[e,size_toList]at this;omega),if_pos (part_one h h1).1]
 rw[if_neg h1,if_neg h1];by_cases h2:p.f0=2
 ·have:=part_name h (.inl h2);rw[if_pos h2,if_pos h2,cat1 (by simp only[List.length_append,List.length_cons,List.length_nil];omega)];rfl
 rw[if_neg h2,if_neg h2];by_cases h3:p.f0=3
 ·have:=part_name h (.inr h3);rw[if_pos h3,if_pos h3,cat1 (by simp only[List.length_append,List.length_cons,List.length_nil];omega),catL (by simp only[List.length_append,List.length_cons,List.length_nil,size_toList];omega)]
 rw[if_neg h3,if_neg h3];by_cases h45:p.f0≤5
 ·have hl1:l.length=1:=(by have:=hn1.1 (by omega) h45;omega);have e:(if p.f0=4 then formula_sign.g p.f0 fun s9=>catC s9 (ofL [32]) fun s10=>if(0:Int)<(l.length:Int)then rd_s (srow (l.map ofL)) 0 fun s11=>catC s10 s11 fun s12=>K s12 else none
   else if p.f0=5 then formula_sign.g p.f0 fun s9=>catC s9 (ofL [32]) fun s10=>if(0:Int)<(l.length:Int)then rd_s (srow (l.map ofL)) 0 fun s11=>catC s10 s11 fun s12=>K s12 else none else none)=K (ofL (sgnT p.f0++32::l.getD 0 [])):=by
   have e0:(formula_sign.g p.f0 fun s9=>catC s9 (ofL [32]) fun s10=>if(0:Int)<(l.length:Int)then rd_s (srow (l.map ofL)) 0 fun s11=>catC s10 s11 fun s12=>K s12 else none)=K (ofL (sgnT p.f0++32::l.getD 0 [])):=by
    rw[sign_g (by omega),catL (by simp only[List.length_append,List.length_cons,List.length_nil];omega),if_pos (by omega),rd_sl (by omega),catL (by simp only[List.length_append,List.length_cons,List.length_nil];omega)];simp
   rw[e0];split
   ·rfl
   rw[if_pos (by omega)]
  rw[if_pos h45,← e];by_cases h4:p.f0=4
  ·rw[if_pos h4,if_pos h4]
  rw[if_neg h4,if_neg h4,if_pos (by omega),if_pos (by omega)]
 rw[if_neg (show ¬ p.f0=4 by omega),if_neg (show ¬ p.f0=5 by omega),if_neg h45,if_pos (by omega)];by_cases h17:p.f0≤17
 ·have hl2:l.length=2:=(by have:=hn1.2.1 (by omega) h17;omega);rw[if_pos h17,if_pos h17,if_pos (by omega),rd_sl (by omega),catL (by simp only[List.length_append,List.length_cons,List.length_nil];omega),catL (by simp only[List.length_append,List.length_cons,List.length_nil];omega),sign_g (by omega),catL (by simp only[List.length_append,List.length_cons,List.length_nil];omega),catL (by simp only[List.length_append,List.length_cons,List.length_nil];omega),if_pos (by omega),rd_sl (by omega),catL (by simp only[List.length_append,List.length_cons,List.length_nil];omega),catL (by simp only[List.length_append,List.length_cons,List.length_nil];omega)]
 have hs1:=comA_len l;rw[if_neg h17,if_neg h17,sign_g (by omega),catL (by simp only[List.length_append,List.length_cons,List.length_nil];omega),hloop,catL (by simp only[List.length_append,List.length_cons,List.length_nil];omega)]
theorem text_len {t:TermS} (h:okTm (T t)=true):t.f1.size≤4096:=by
 have e:(T t).x=t.f1.data.toList:=rfl;rw[← size_toList,← e];by_cases k2:(T t).k=2
 ·exact okText_len (okTm_two h k2).1
 exact(okTm_other h k2).2.2.1
theorem of_g (t:TermS) {n:Nat} (hn:Fuel n) (ht:t.lt n) (h:okTm (T t)=true) (K:ByteArray→Option R):print_of.g n t.f0 t.f1 t.f2 t.f3 K=K (ofL (ofT (T t))):=by
 unfold print_of.g ofT;rw[text_g t hn ht (by have:=text_len h;omega),if_pos h,strEq_nil];have e:(ofL (ttext (T t))).data.toList=ttext (T t):=rfl;by_cases k0:(T t).k=0
 ·rw[if_pos k0,e,(ttext_ne h).2 k0];rfl
 rw[if_neg k0,e];cases hq:ttext (T t)with
 |nil=>exact absurd ((ttext_ne h).1 hq) k0
 |cons c r=>rfl
theorem wordsS_l (x:List ByteArray) (hx:x.length≤1000) (hl:(wordsP x).length≤140737488355328) (K:ByteArray→Option R): ∀ (r:List ByteArray) (i m:Nat),x.drop i=r→r.length<m→
 print_words.l3 m (srow ((x.take i).filter fun s=> !(s.data.toList== []))) (srow x) (x.length:Int) (i:Int) (fun l5=>strings_Join.g l5 (ofL [32]) fun s2=>K s2)=K (ofL (wordsP x))
 |r,i,0,hd,hm=>by omega
 | [],i,m+1,hd,hm=>by
  have hi:=len_drop hd;rw[print_words.l3];simp only[bifd];rw[if_neg (by omega),List.take_of_length_le hi];have hf:(x.filter fun s=> !(s.data.toList== [])).length≤x.length:=List.length_filter_le _ _;unfold strings_Join.g;rw[unRows_mk unStr_mk (rows_str _)];exact if_pos ⟨by omega,hl⟩
 |a::r,i,m+1,hd,hm=>by
  obtain⟨hg,hi,hr,ht⟩:=get_drop hd;have ih:=wordsS_l x hx hl K r (i+1) m hr (by simpa using hm);rw[ht,List.filter_append]at ih;rw[print_words.l3];simp only[bifd2,bifd,bifn,strEq_nil,srow_len,Int.toNat_natCast];rw[if_pos (by omega),if_pos (by omega),rd_s_ok hg,wr_succ (by omega)];cases ha:a.data.toList with
  |nil=>
   have hb:(!(a.data.toList==([]:List UInt8)))=false:=(by rw[ha];rfl);rw[show([a].filter fun s=> !(s.data.toList== []))= []by simp only[List.filter,hb],List.append_nil]at ih;exact ih
  |cons c q=>
   have hf:((x.take i).filter fun s=> !(s.data.toList== [])).length≤x.length:=Nat.le_trans (List.length_filter_le _ _) (by rw[List.length_take];omega);have hb:(!(a.data.toList==([]:List UInt8)))=true:=(by rw[ha];rfl);rw[show([a].filter fun s=> !(s.data.toList== []))= [a]by simp only[List.filter,hb]]at ih;(show(bif false then _ else _)=_);rw[cond_false,appC_ok (by rw[srow_len];simp only[List.length_cons,List.length_nil];omega) (by rw[srow_len];simp only[List.length_cons,List.length_nil];omega)];rw[← ih];congr 1;simp[srow,DV.dis1]
theorem words_g (x:List ByteArray) (hx:x.length≤1000) (hl:(wordsP x).length≤140737488355328) {n:Nat} (hn:1000<n) (K:ByteArray→Option R):print_words.g n (srow x) K=K (ofL (wordsP x)):=by
 unfold print_words.g;rw[srow_len];exact wordsS_l x hx hl K x 0 n rfl (by omega)
end Go.Proofs.YtcfoebkbahpnaaaGreat.Ab

set_option linter.unusedVariables false
set_option linter.unusedSimpArgs false
namespace Go.Proofs.YtcfoebkbahpnaaaGreat.Hd
open Go.RowKit Go.Proofs.YtcfoebkbahpnaaaGreatW.PrintWords Go.Proofs.YtcfoebkbahpnaaaGreatW.PrintLast
open Ab (DV AV Dat OwnA OwnS Pres Fresh AR ORep FunOK Ent EnvOK Enters RowsR slR Who Ro RW)
open Ab (RS oneL twoL leaf2 resFrom)
/-! what scope.Check comes to, in plain -/
open Ab (Fuel OpS TriS opOK opNeeds varsOf vstepP leafT leafP resNamesP newRS resP resultsP sizeS)
theorem vstep_some {n:Nat} (hn:Fuel n) (kd:Int) (x:ByteArray) (out:List ByteArray) (h:out.length≤2):triples_vstep n kd x out=some (vstepP kd x out):=by
 have:=hn.1;have:=hn.2;unfold triples_vstep vstepP slices_Contains_string_string.f;by_cases h4:kd=4
 ·rw[if_pos h4,if_pos h4,if_pos (by omega)];simp only[Option.bind_some];cases (Ab.TB out).contains x.data.toList with
  |true=>simp
  |false=>simp only[Bool.false_eq_true,if_false,if_pos (show out.length<8796093022208 by omega)]
 rw[if_neg h4,if_neg h4]
theorem vars_some {n:Nat} (hn:Fuel n) (t:TriS):triples_Vars.f n t.f0.f0 t.f0.f1 t.f0.f2 t.f0.f3 t.f1.f0 t.f1.f1 t.f1.f2 t.f1.f3 t.f2.f0 t.f2.f1 t.f2.f2 t.f2.f3=some (varsOf t):=by
 unfold triples_Vars.f varsOf;have a:=(Ab.vstepP_len t.f0.f0 t.f0.f1 []).1;have b:=(Ab.vstepP_len t.f1.f0 t.f1.f1 (vstepP t.f0.f0 t.f0.f1 [])).1;rw[vstep_some hn _ _ _ (by simp),Option.bind_some,vstep_some hn _ _ _ (by simp at a;omega),Option.bind_some,vstep_some hn _ _ _ (by simp at a;omega)]
theorem big_le {n:Nat} (hn:Fuel n) {s:ByteArray} (h:s.size<n):s.size≤maxLen:=by
 have:=hn.2;unfold maxLen;omega
theorem leaf1_some {n:Nat} (hn:Fuel n): ∀ (l:List TriS) (O:List ByteArray),O.length+3*l.length<4294967296→(∀ t ∈ l,t.lt n)→leaf1 n l O=some (leafT l O)
 | [],O,_,_=>rfl
 |t::r,O,hl,hb=>by
  have h3:=(Ab.varsOf_len t).1;simp only[leaf1,leafT];rw[vars_some hn,Option.bind_some];simp only[List.length_cons]at hl;have hbt:=hb t (List.mem_cons_self ..);rw[if_pos (show(varsOf t).length+O.length<4294967296∧(∀ s ∈ varsOf t,s.size≤maxLen)from⟨by omega,fun s hs=>by
   rcases(Ab.varsOf_len t).2 s hs with rfl|rfl|rfl
   ·exact big_le hn hbt.1.1
   ·exact big_le hn hbt.2.1.1
   exact big_le hn hbt.2.2.1⟩)]
  exact leaf1_some hn r _ (by simp;omega) (fun t' ht'=>hb t' (List.mem_cons_of_mem _ ht'))
theorem leaf_some {n:Nat} (hn:Fuel n) {o:OpS} (h:opOK o=true) (hb:o.lt n):scope_leaf.f n o.f1 o.f2.f0 o.f2.f1=some (leafP o):=by
 obtain⟨a,b,c,d⟩:=Ab.opOK_lens h;have hl:=Ab.leafT_len o.f1 [];unfold scope_leaf.f;rw[leaf1_some hn o.f1 [] (by simp;omega) hb.b,Option.bind_some];have:=Nat.mul_le_mul (show o.f2.f1.length+1≤65 by omega) b;simp only[List.length_nil]at hl;rw[if_pos ⟨by omega,by omega,fun s hs=>big_le hn (hb.d s hs),fun r hr=>Nat.le_of_eq (d r hr).symm⟩];rfl
theorem resBad_eq (o:OpS) (bad:Int) (l:List RS):resBad o bad l=Ab.resBad o bad l:=by
 match l with
 | []=>rfl
 | [a]=>rfl
 |_::_::_=>rfl
theorem resGo_some {n:Nat} (hn:Fuel n): ∀ (r:List OpS) (i:Nat) (out:List Int) (l:List RS) (bad:Int),(∀ o ∈ r,o.lt n)→i+r.length≤128→sizeS l≤4096*i→resGo n i r out l bad=some (resP i r out l bad)
 | [],i,out,l,bad,_,_,_=>by
  simp only[resGo,resP];split<;>rfl
 |o::r,i,out,l,bad,hb,hi,hs=>by
  have hbo:=hb o (List.mem_cons_self ..);simp only[List.length_cons]at hi;simp only[resGo,resP];rw[show scope_Needs.f n o.f0 o.f1 o.f2.f0 o.f2.f1 o.f3 o.f4 o.f5=some (opNeeds o.f0)from rfl,Option.bind_some,show scope_Right.f n o.f0 o.f1 o.f2.f0 o.f2.f1 o.f3 o.f4 o.f5=some (opOK o)from if_pos ⟨hn,hbo⟩,Option.bind_some];cases hok:opOK o with
  |false=>simp
  |true=>
   have hnd:=Ab.opOK_needs hok;have hn2:=(Ab.opNeeds_le o.f0).2;simp only[Bool.true_eq_false,if_false];by_cases hlt:(l.length:Int)<opNeeds o.f0
   ·simp only[if_pos hlt]
   simp only[if_neg hlt,if_neg (show ¬ opNeeds o.f0<0 by omega)];generalize hnd:l.drop (l.length - (opNeeds o.f0).toNat)=nd;have hsplit:sizeS (l.take (l.length - (opNeeds o.f0).toNat))+sizeS nd=sizeS l:=(by rw[← Ab.sizeS_append,← hnd,List.take_append_drop]);have hlen:nd.length≤2:=(by rw[← hnd,List.length_drop];omega);by_cases h9:o.f0=9∧nd.any RS.sv=true
   ·simp only[if_pos h9]
   simp only[if_neg h9];have hrl:=Ab.resNamesP_len hok nd;have hnames:resNames n o nd=some (resNamesP o nd):=by
    match nd,hsplit,hlen with
    | [],_,_=>exact leaf_some hn hok hbo
    | [a],hsplit,_=>
     have h2:sizeS [a]=a.S.length:=(by simp[sizeS]);exact if_pos ⟨by omega,big_le hn hbo.i⟩
    | [a,b],hsplit,_=>
     have h2:sizeS [a,b]=a.S.length+b.S.length:=(by simp[sizeS]);exact if_pos (by omega)
    |_::_::_::_,_,hlen=>simp at hlen
   rw[hnames,Option.bind_some,resBad_eq];exact resGo_some hn r (i+1) _ _ _ (fun o' ho'=>hb o' (List.mem_cons_of_mem _ ho')) (by omega) (by
    rw[Ab.sizeS_append]
    have:sizeS [newRS i o nd]=(resNamesP o nd).length:=by simp[sizeS,newRS]
    show _+sizeS [newRS i o nd]≤_
    omega)
theorem check_some {n:Nat} (hn:Fuel n) (c:List OpS) (hb: ∀ o ∈ c,o.lt n):scope_Check.f n c=some (resultsP c).2:=by
 unfold scope_Check.f scope_results.f resultsP;by_cases h:c.length>128
 ·rw[if_pos h,if_pos h];rfl
 rw[if_neg h,if_neg h,resGo_some hn c 0 [] [] 0 hb (by omega) (by simp[sizeS])];rfl
open Ab in
/-- scope.Check -/
theorem h9 (n:Nat):Ent G.P 9 (sp9 n (Hs n)):=by
 intro args obs K r h;unfold sp9 at h;obtain⟨a,a2,rfl,h1⟩:=hdL_inv h;obtain⟨l,rfl,h2⟩:=lA_inv h1;obtain⟨rfl,h5⟩:=endL_inv h2;obtain⟨rfl,h6⟩:=endL_inv h5;clear h h1 h2 h5;unfold scope_Check.g at h6;split at h6
 ·rename_i c hx;split at h6
  ·rename_i hc;(have hg: ∀ K',scope_Check.g n l K'=K' (resultsP c).2:=fun K'=>by unfold scope_Check.g;rw[hx];simp only[if_pos hc]);refine⟨(I (resultsP c).2,[]),fun K'=>hg (fun y0=>K' (I y0,[])),⟨Tryz.f9,by kernel_rfl,by kernel_rfl,by kernel_rfl⟩,funOK_of (xs:= [.sl false 7 l]) (Ret.v rfl) fun D w vs hv=>?_⟩;obtain⟨u,rfl,hu⟩:=hv.one;have hl:c.length<4611686018427387904:=(by have:=hc.1.2;have:=hc.2.1;omega);obtain⟨A,cp,rfl,hl,hC⟩:=row_of (d:=k43) rfl rOp_K (RowsR.and (unRows_of unOp_of hx) fun o ho=>OpSz.of (hc.2.2 o ho) hc.1) hl hu;exact scope_Check.calls n A cp c _ w hC hl (check_some hc.1 c hc.2.2)
  cases h6
 cases h6
end Go.Proofs.YtcfoebkbahpnaaaGreat.Hd

set_option linter.unusedVariables false
set_option linter.unusedSimpArgs false
namespace Go.Proofs.YtcfoebkbahpnaaaGreat.Hd
open Go.RowKit Go.Proofs.YtcfoebkbahpnaaaGreatW.PrintWords Go.Proofs.YtcfoebkbahpnaaaGreatW.PrintLast
open Ab (DV AV Dat OwnA OwnS Pres Fresh AR ORep FunOK Ent EnvOK Enters RowsR slR Who Ro RW)
def strings_Join.f (l0 : List ByteArray) (a1 : ByteArray) : Option (ByteArray) :=
  if l0.length ≤ 140737488355328 ∧ (Lib.join (l0.map (·.data.toList)) a1.data.toList).length ≤ 140737488355328 then some ⟨(Lib.join (l0.map (·.data.toList)) a1.data.toList).toArray⟩ else none
theorem strings_Join.calls (A0:Option Addr) (c0:Nat) (l0:List ByteArray) (a1:ByteArray) (r:ByteArray) (w:World) (hr0:Kd.C Kd.string w A0 l0.length l0) (hc0:l0.length≤c0) (h:strings_Join.f l0 a1=some r):
 Calls Tryz.prog 59 #[.slice A0 l0.length c0,.string a1] w fun e w'=>e= .returned (.string r)∧Below w.heap.size w w':=by
 unfold strings_Join.f at h;by_cases hs:l0.length≤140737488355328∧(Lib.join (l0.map (·.data.toList)) a1.data.toList).length≤140737488355328
 ·rw[if_pos hs]at h;simp only[Option.some.injEq]at h;subst h;cases l0 with
  |nil=>
   refine(Tryz.strings_Join_none A0 c0 a1 w).mono ?_;rintro e w' ⟨rfl,rfl⟩;exact⟨rfl,Below.refl _ _⟩
  |cons x xs=>
   obtain⟨ad,rfl,hcell⟩:=hr0.2.2 (by simp);have hk: ∀ (j:Nat) y,(x::xs)[j]? =some y→w.cell? (ad.add j)=some (.string y):=fun j y hj=>by
    obtain⟨c,hl,hK,hc⟩:=hcell j y hj;obtain rfl:c= [Value.string y]:=hK;have:=hc 0 _ rfl;simpa [Kd.string,Kd.scalar]using this
   have h0:=hk 0 x rfl;have hsp:ad.spot=none:=by
    cases hq:ad.spot with
    |none=>rfl
    |some q=>
     exfalso;have:(ad.add 0)=ad:=(by simp[Addr.add]);rw[this]at h0;unfold World.cell? at h0;rw[hq]at h0;revert h0;split<;>simp
   obtain⟨b,o,sp⟩:=ad;simp only at hsp;subst hsp;have hb:b<w.heap.size:=by
    have:=World.block_lt_of_cell? w _ h0;simpa [Addr.add]using this
   refine(Tryz.strings_Join b o c0 (x::xs) a1 w (fun j y hj=>?_) hb hs.1 hc0 hs.2).mono ?_
   ·have:=hk j y hj;rwa[add_at]at this
   rintro e w' ⟨rfl,hw⟩;exact⟨rfl,hw⟩
 rw[if_neg hs]at h;cases h
open Ab in
/-- strings.Join -/
theorem h59 (n:Nat):Ent G.P 59 (sp59 n (Hs n)):=by
 intro args obs K r h;unfold sp59 at h;obtain⟨a,a2,rfl,h1⟩:=hdL_inv h;obtain⟨l,rfl,h2⟩:=lA_inv h1;obtain⟨b,b2,rfl,h3⟩:=hdL_inv h2;obtain⟨s,rfl,h4⟩:=sA_inv h3;obtain⟨rfl,h5⟩:=endL_inv h4;obtain⟨rfl,h6⟩:=endL_inv h5;clear h h1 h2 h3 h4 h5;unfold strings_Join.g at h6;split at h6
 ·rename_i xs hx;split at h6
  ·rename_i hc;(have hg: ∀ K',strings_Join.g l s K'=K' (ofL (Lib.join (TB xs) s.data.toList)):=fun K'=>by unfold strings_Join.g;rw[hx];simp only[if_pos hc]);refine⟨(S (ofL (Lib.join (TB xs) s.data.toList)),[]),fun K'=>hg (fun y0=>K' (S y0,[])),⟨Tryz.f59,by kernel_rfl,by kernel_rfl,by kernel_rfl⟩,funOK_of (xs:= [.sl false 1 l,Ab.S s]) (Ret.v rfl) fun D w vs hv=>?_⟩;obtain⟨u,v,rfl,hu,kv⟩:=hv.two;rw[dat_v kv];obtain⟨A,c,rfl,hl,hC⟩:=row_of (d:=Kd.string) rfl rStr_K (unRows_of unStr_of hx) (by have:=hc.1;omega) hu;exact strings_Join.calls A c xs s _ w hC hl (if_pos hc)
  cases h6
 cases h6
end Go.Proofs.YtcfoebkbahpnaaaGreat.Hd

/- What is said of the functions is so. -/
namespace Go.Proofs.YtcfoebkbahpnaaaGreat.Ab
open Go Go.Proofs.YtcfoebkbahpnaaaGreat
theorem v23 (n:Nat):EnvOK G.P (E n (Hs n) 23):=EnvOK.take (by kernel_rfl) (v22 n) (Hd.h9 n)
theorem v24 (n:Nat):EnvOK G.P (E n (Hs n) 24):=EnvOK.take (by kernel_rfl) (v23 n) (ok95 n (v23 n))
theorem v25 (n:Nat):EnvOK G.P (E n (Hs n) 25):=EnvOK.take (by kernel_rfl) (v24 n) (ok78 n (v24 n))
theorem v26 (n:Nat):EnvOK G.P (E n (Hs n) 26):=EnvOK.take (by kernel_rfl) (v25 n) (ok79 n (v25 n))
theorem v27 (n:Nat):EnvOK G.P (E n (Hs n) 27):=EnvOK.take (by kernel_rfl) (v26 n) (ok57 n (v26 n))
end Go.Proofs.YtcfoebkbahpnaaaGreat.Ab
