/- What the texts of formulas come to: the program's, and the reference's. -/
import Derived.Test.YtcfoebkbahpnaaaDUc
namespace Go.Proofs.Ytcfoebkbahpnaaa.L
open Go.RowKit Go.Lib Go.Proofs.Ytcfoebkbahpnaaa Go.Proofs.YtcfoebkbahpnaaaW.PrintWords Go.Proofs.YtcfoebkbahpnaaaW.PrintLast
set_option linter.unusedVariables false
set_option linter.unusedSimpArgs false

/-! ### signs -/
def sgnT (kd : Int) : List UInt8 := (signL.getD kd.toNat ⟨#[]⟩).data.toList
theorem sign_eq {kd:Int} (h:0≤kd∧kd<27):formula_sign.f kd=some (ofL (sgnT kd)):=by
 unfold formula_sign.f sgnT;rw[if_pos h,ofL_data]
theorem sgnT_len (kd:Int) (h:0≤kd∧kd<27):(sgnT kd).length≤9:=by
 have key: ∀ n:Fin 27,((signL.getD n.val ⟨#[]⟩).data.toList).length≤9:=(by decide);exact key ⟨kd.toNat,by omega⟩
theorem rword_eq {kd:Int} (h:18≤kd∧kd≤26):legationref06_word.f kd=some (ofL (sgnT kd)):=by
 (obtain rfl|rfl|rfl|rfl|rfl|rfl|rfl|rfl|rfl:kd=18∨kd=19∨kd=20∨kd=21∨kd=22∨kd=23∨kd=24∨kd=25∨kd=26:=by omega);all_goals rfl
theorem rsign_ev {kd:Int} (h:4≤kd∧kd≤17):Ev (fun k=>legationref06_Sign.f k kd) (ofL (sgnT kd)):=by
 refine Ev.at 1 (fun k=>?_);(obtain rfl|rfl|rfl|rfl|rfl|rfl|rfl|rfl|rfl|rfl|rfl|rfl|rfl|rfl:kd=4∨kd=5∨kd=6∨kd=7∨kd=8∨kd=9∨kd=10∨kd=11∨kd=12∨kd=13∨kd=14∨kd=15∨kd=16∨kd=17:=by omega);all_goals rfl
/-! ### a part's text -/
def comA : List (List UInt8) → List UInt8
  | [] => []
  | x :: r => x ++ r.flatMap fun y => 32 :: 44 :: 32 :: y
theorem comA_snoc {l:List (List UInt8)} (h:l≠ []) (y:List UInt8):comA (l++ [y])=comA l++32::44::32::y:=by
 cases l with
 |nil=>exact absurd rfl h
 |cons x r=>simp[comA]
def lsz (l : List (List UInt8)) : Nat := (l.map List.length).sum
theorem lsz_append (a b:List (List UInt8)):lsz (a++b)=lsz a+lsz b:=by simp[lsz]
theorem lsz_take (l:List (List UInt8)) (i:Nat):lsz (l.take i)≤lsz l:=by
 have h:=lsz_append (l.take i) (l.drop i);rw[List.take_append_drop]at h;omega
theorem comA_len: ∀ l:List (List UInt8),(comA l).length≤lsz l+3*l.length
 | []=>by simp[comA]
 |x::r=>by
  have key: ∀ r:List (List UInt8),(r.flatMap fun y=>32::44::32::y).length=lsz r+3*r.length:=by
   intro r;induction r with
   |nil=>rfl
   |cons y r ih=>
    simp only[List.flatMap_cons,List.length_append,List.length_cons,ih,lsz,List.map_cons,List.sum_cons];omega
  simp only[comA,List.length_append,key,lsz,List.map_cons,List.sum_cons,List.length_cons];omega
theorem get2_len (l:List (List UInt8)):(l.getD 0 []).length+(l.getD 1 []).length≤lsz l:=by
 match l with
 | []=>simp
 | [a]=>simp[lsz]
 |a::b::r=>simp[lsz]
theorem rd_ofL {l:List (List UInt8)} {i:Nat} (h:i<l.length):rdOf ByteArray.empty (l.map ofL) (i:Int)=ofL (l.getD i []):=by
 unfold rdOf;rw[Int.toNat_natCast,List.getD_eq_getElem?_getD,List.getD_eq_getElem?_getD,List.getElem?_map,List.getElem?_eq_getElem h];rfl
def partT (p : S112) (l : List (List UInt8)) : List UInt8 :=
  if p.f0 = 1 then ttext (T p.f1) else if p.f0 = 2 then 63 :: p.f2.data.toList else if p.f0 = 3 then [66, 79, 85, 78, 68, 32, 40, 32, 63] ++ p.f2.data.toList ++ [32, 41]
  else if p.f0 ≤ 5 then sgnT p.f0 ++ 32 :: l.getD 0 []
  else if p.f0 ≤ 17 then [40, 32] ++ l.getD 0 [] ++ [32] ++ sgnT p.f0 ++ [32] ++ l.getD 1 [] ++ [32, 41]
  else sgnT p.f0 ++ [32, 40, 32] ++ comA l ++ [32, 41]
theorem part_kind {p:S112} (h:partOK p=true):0≤fneeds p.f0 p.f3∧1≤p.f0∧p.f0≤26:=by
 have key:0≤fneeds p.f0 p.f3:=by
  unfold partOK at h;by_cases h1:p.f0=1
  ·rw[h1];simp[fneeds]
  rw[if_neg h1]at h;by_cases h2:p.f0=2∨p.f0=3
  ·unfold fneeds;rw[if_pos (by omega)];decide
  rw[if_neg h2]at h;by_cases h3:p.f0=26
  ·rw[if_pos h3]at h;simp only[Bool.and_eq_true,decide_eq_true_eq]at h;rw[h3];exact h.1
  rw[if_neg h3]at h;simp only[Bool.and_eq_true,decide_eq_true_eq]at h;exact h.1
 refine⟨key,?_⟩;unfold fneeds at key;constructor;all_goals
  repeat' split at key
  all_goals omega
theorem part_one {p:S112} (h:partOK p=true) (h1:p.f0=1):okTm (T p.f1)=true∧p.f1.f0≠0:=by
 unfold partOK at h;rw[if_pos h1]at h;simp only[Bool.and_eq_true,Bool.or_eq_true,beq_iff_eq]at h;exact⟨h.1.1,by rcases h.1.2 with h|h<;>omega⟩
theorem part_name {p:S112} (h:partOK p=true) (h2:p.f0=2∨p.f0=3):p.f2.size≤32:=by
 unfold partOK at h;rw[if_neg (by omega),if_pos h2]at h;simp only[Bool.and_eq_true]at h;have:=(okName_len h.1).1;rwa[size_toList]at this
theorem part_needs {p:S112} (h:partOK p=true):(4≤p.f0→p.f0≤5→fneeds p.f0 p.f3=1)∧(6≤p.f0→p.f0≤17→fneeds p.f0 p.f3=2)∧(18≤p.f0→1≤fneeds p.f0 p.f3):=by
 have hk:=part_kind h;unfold fneeds at hk ⊢;refine⟨fun _ _=>?_,fun _ _=>?_,fun _=>?_⟩;all_goals
  repeat' split
  all_goals first|omega|(exfalso;have:=hk.1;simp only at this;split at this<;>omega)|skip
 all_goals
  have h0:=hk.1
  repeat' split at h0
  all_goals omega
theorem partT_ne {p:S112} (h:partOK p=true) (l:List (List UInt8)):partT p l≠ []:=by
 unfold partT;by_cases h1:p.f0=1
 ·rw[if_pos h1];obtain⟨h2,h3⟩:=part_one h h1;exact fun e=>h3 ((ttext_ne h2).1 e)
 rw[if_neg h1];(repeat' split);all_goals simp
theorem partT_len {p:S112} (h:partOK p=true) {l:List (List UInt8)} (hl:l.length≤16):(partT p l).length≤lsz l+20100:=by
 have hk:=part_kind h;have hs:=sgnT_len p.f0 (by omega);have hg:=get2_len l;have hc:=comA_len l;unfold partT;by_cases h1:p.f0=1
 ·rw[if_pos h1];have:=ttext_len (part_one h h1).1;omega
 rw[if_neg h1];by_cases h2:p.f0=2
 ·rw[if_pos h2];have:=part_name h (.inl h2);rw[← size_toList]at this;simp only[List.length_cons];omega
 rw[if_neg h2];by_cases h3:p.f0=3
 ·rw[if_pos h3];have:=part_name h (.inr h3);rw[← size_toList]at this;simp only[List.length_cons,List.length_append,List.length_nil];omega
 rw[if_neg h3];(repeat' split);all_goals
  simp only[List.length_cons,List.length_append,List.length_nil]
  omega
/-! ### the program's text of a part -/
theorem ploop (pre:List UInt8) (hp:pre.length≤100) (l:List (List UInt8)) (hl:l.length≤16) (hs:lsz l≤100000000): ∀ (r:List (List UInt8)) (j:Nat),l.drop j=r→
 Ev (fun k=>formula_text.l0 k (ofL (pre++comA (l.take j))) (l.map ofL) (l.length:Int) (j:Int)) (ofL (pre++comA l++ [32,41])):=by
 intro r;induction r with
 |nil=>
  intro j hd;have hj:=len_of_drop hd;have hc:=comA_len l;refine Ev.step (fun k=>by rw[formula_text.l0]) ?_;refine Ev.no (by omega) ?_;rw[List.take_of_length_le hj];refine Ev.yes (by simp only[ofL_size,List.length_append];omega) ?_;exact Ev.nowE (ba_ext (by simp[app_data,ofL_toList]))
 |cons y r ih=>
  intro j hd;obtain⟨hg,hj,hr,ht⟩:=get_of_drop hd ([]:List UInt8);rw[Int.toNat_natCast]at hg;have hrd:rdOf ByteArray.empty (l.map ofL) (j:Int)=ofL y:=(by rw[rd_ofL hj,hg]);have hc:=comA_len (l.take j);have h1:=lsz_take l j;have h2:lsz (l.take (j+1))=lsz (l.take j)+y.length:=(by rw[ht,lsz_append];simp[lsz]);have h3:=lsz_take l (j+1);rw[List.length_take]at hc;refine Ev.step (fun k=>by rw[formula_text.l0]) ?_;refine Ev.yes (by omega) (Ev.yes (by omega) (Ev.yes (by rw[List.length_map];omega) ?_));simp only[hrd];by_cases hj0:(j:Int)>0
  ·refine Ev.yes hj0 (Ev.yes ?_ (Ev.yes ?_ ?_));rotate_right
   ·rw[wrap_succ (by omega)];refine Ev.cast (fun k=>?_) (ih (j+1) hr);congr 1;rw[ht,comA_snoc (by intro e;rw[← List.length_eq_zero_iff,List.length_take]at e;omega)];exact ba_ext (by simp[app_data,ofL_toList])
   all_goals
    simp only[ByteArray.size_append,ofL_size,bsz,List.length_append,List.length_cons,List.length_nil,List.size_toArray]
    omega
  refine Ev.no hj0 (Ev.yes ?_ ?_);rotate_right
  ·rw[wrap_succ (by omega)];refine Ev.cast (fun k=>?_) (ih (j+1) hr);congr 1;(obtain rfl:j=0:=by omega);rw[ht];exact ba_ext (by simp[app_data,ofL_toList,comA])
  all_goals
   simp only[ByteArray.size_append,ofL_size,bsz,List.length_append,List.length_cons,List.length_nil,List.size_toArray]
   omega
theorem pj1 {p:S112} (hk:18≤p.f0∧p.f0≤26) (l:List (List UInt8)) (hl:l.length≤16) (hs:lsz l≤100000000):
 Ev (fun k=>formula_text.j1 k (l.map ofL) p.f0 p.f1.f0 p.f1.f1 p.f1.f2 p.f1.f3 p.f2 p.f3) (ofL (partT p l)):=by
 have hz:=sgnT_len p.f0 (by omega);refine Ev.step (fun k=>by rw[formula_text.j1]) ?_;rw[sign_eq (by omega)];simp only[Option.bind_some];refine Ev.yes (by rw[ofL_size];omega) ?_;have h:=ploop (sgnT p.f0++ [32,40,32]) (by simp;omega) l hl hs l 0 rfl;rw[show partT p l=sgnT p.f0++ [32,40,32]++comA l++ [32,41]by
  unfold partT;rw[if_neg (by omega),if_neg (by omega),if_neg (by omega),if_neg (by omega),if_neg (by omega)]]
 rw[List.length_map];refine Ev.cast (fun k=>?_) h;congr 1;exact ba_ext (by simp[app_data,ofL_toList,comA])
theorem pj0t {p:S112} (hk:4≤p.f0∧p.f0≤5) (l:List (List UInt8)) (hl:l.length=1) (hs:lsz l≤100000000):
 Ev (fun k=>formula_text.j0 k (l.map ofL) true p.f0 p.f1.f0 p.f1.f1 p.f1.f2 p.f1.f3 p.f2 p.f3) (ofL (partT p l)):=by
 have hz:=sgnT_len p.f0 (by omega);have hg:=get2_len l;have hr0:rdOf ByteArray.empty (l.map ofL) 0=ofL (l.getD 0 []):=rd_ofL (i:=0) (by omega);refine Ev.step (fun k=>by rw[formula_text.j0]) ?_;refine Ev.yes rfl ?_;rw[sign_eq (by omega)];simp only[Option.bind_some,hr0];refine Ev.yes (by rw[ofL_size];omega) (Ev.yes (by rw[List.length_map];omega) (Ev.yes (by simp only[ByteArray.size_append,ofL_size,bsz,List.size_toArray,List.length_cons,List.length_nil];omega) (Ev.nowE ?_)));rw[show partT p l=sgnT p.f0++32::l.getD 0 []by
  unfold partT;rw[if_neg (by omega),if_neg (by omega),if_neg (by omega),if_pos (by omega)]]
 exact ba_ext (by simp[app_data,ofL_toList])
theorem ptext_ev {p:S112} (h:partOK p=true) (l:List (List UInt8)) (hl:(l.length:Int)=fneeds p.f0 p.f3) (hs:lsz l≤100000000):
 Ev (fun k=>formula_text.f k p.f0 p.f1.f0 p.f1.f1 p.f1.f2 p.f1.f3 p.f2 p.f3 (l.map ofL)) (ofL (partT p l)):=by
 have hk:=part_kind h;have hn:=part_needs h;have hle:=(fneeds_le p.f0 p.f3).2;have hg:=get2_len l;unfold formula_text.f;by_cases h1:p.f0=1
 ·refine Ev.yes h1 ?_;refine Ev.bind (text_ev p.f1.f0 p.f1.f1 p.f1.f2 p.f1.f3 (part_one h h1).1) ?_;rw[show partT p l=ttext (T p.f1)from if_pos h1];exact Ev.now _
 refine Ev.no h1 ?_;by_cases h2:p.f0=2
 ·have:=part_name h (.inl h2);refine Ev.yes h2 (Ev.yes (by omega) (Ev.nowE ?_));rw[show partT p l=63::p.f2.data.toList by unfold partT;rw[if_neg h1,if_pos h2]];exact ba_ext (by simp[app_data,ofL_toList])
 refine Ev.no h2 ?_;by_cases h3:p.f0=3
 ·have:=part_name h (.inr h3);refine Ev.yes h3 (Ev.yes (by omega) (Ev.yes (by simp only[ByteArray.size_append,bsz,List.size_toArray,List.length_cons,List.length_nil];omega) (Ev.nowE ?_)));rw[show partT p l= [66,79,85,78,68,32,40,32,63]++p.f2.data.toList++ [32,41]by unfold partT;rw[if_neg h1,if_neg h2,if_pos h3]];exact ba_ext (by simp[app_data,ofL_toList])
 refine Ev.no h3 ?_;by_cases h4:p.f0=4
 ·refine Ev.yes h4 ?_;exact pj0t (by omega) l (by have:=hn.1 (by omega) (by omega);omega) hs
 refine Ev.no h4 ?_;by_cases h5:p.f0=5
 ·rw[show(p.f0==5)=true from beq_iff_eq.mpr h5];exact pj0t (by omega) l (by have:=hn.1 (by omega) (by omega);omega) hs
 rw[show(p.f0==5)=false from beq_eq_false_iff_ne.mpr h5];refine Ev.step (fun k=>by rw[formula_text.j0]) ?_;refine Ev.no (by simp) (Ev.yes (by omega) ?_);by_cases h17:p.f0≤17
 ·refine Ev.yes h17 ?_;have hl2:l.length=2:=(by have:=hn.2.1 (by omega) h17;omega);have hz:=sgnT_len p.f0 (by omega);have hr0:rdOf ByteArray.empty (l.map ofL) 0=ofL (l.getD 0 []):=rd_ofL (i:=0) (by omega);have hr1:rdOf ByteArray.empty (l.map ofL) 1=ofL (l.getD 1 []):=rd_ofL (i:=1) (by omega);rw[sign_eq (by omega)];simp only[Option.bind_some,hr0,hr1,List.length_map];refine Ev.yes (by omega) (Ev.yes ?_ (Ev.yes ?_ (Ev.yes ?_ (Ev.yes ?_ (Ev.yes (by omega) (Ev.yes ?_ (Ev.yes ?_ (Ev.nowE ?_))))))));rotate_right
  ·rw[show partT p l= [40,32]++l.getD 0 []++ [32]++sgnT p.f0++ [32]++l.getD 1 []++ [32,41]by
    unfold partT;rw[if_neg h1,if_neg h2,if_neg h3,if_neg (by omega),if_pos h17]]
   exact ba_ext (by simp[app_data,ofL_toList])
  all_goals
   simp only[ByteArray.size_append,ofL_size,bsz,List.length_append,List.length_cons,List.length_nil,List.size_toArray]
   omega
 refine Ev.no h17 ?_;exact pj1 (by omega) l (by omega) hs
/-! ### the reference's text of a part -/
theorem rloop (pre:List UInt8) (hp:pre.length≤100) (l:List (List UInt8)) (hl:l.length≤16) (hs:lsz l≤100000000): ∀ (r:List (List UInt8)) (j:Nat),l.drop j=r→0<j→
 Ev (fun k=>legationref06_text.l0 k (l.map ofL) (ofL (pre++comA (l.take j))) (j:Int)) (ofL (pre++comA l++ [32,41])):=by
 intro r;induction r with
 |nil=>
  intro j hd h0;have hj:=len_of_drop hd;have hc:=comA_len l;refine Ev.step (fun k=>by rw[legationref06_text.l0]) ?_;refine Ev.no (by rw[List.length_map];omega) ?_;rw[List.take_of_length_le hj];refine Ev.yes (by simp only[ofL_size,List.length_append];omega) ?_;exact Ev.nowE (ba_ext (by simp[app_data,ofL_toList]))
 |cons y r ih=>
  intro j hd h0;obtain⟨hg,hj,hr,ht⟩:=get_of_drop hd ([]:List UInt8);rw[Int.toNat_natCast]at hg;have hrd:rdOf ByteArray.empty (l.map ofL) (j:Int)=ofL y:=(by rw[rd_ofL hj,hg]);have hc:=comA_len (l.take j);have h1:=lsz_take l j;have h2:lsz (l.take (j+1))=lsz (l.take j)+y.length:=(by rw[ht,lsz_append];simp[lsz]);have h3:=lsz_take l (j+1);rw[List.length_take]at hc;refine Ev.step (fun k=>by rw[legationref06_text.l0]) ?_;simp only[hrd];refine Ev.yes (by rw[List.length_map];omega) (Ev.yes ?_ (Ev.yes (by omega) (Ev.yes ?_ ?_)));rotate_right
  ·rw[wrap_succ (by omega)];refine Ev.cast (fun k=>?_) (ih (j+1) hr (by omega));congr 1;rw[ht,comA_snoc (by intro e;rw[← List.length_eq_zero_iff,List.length_take]at e;omega)];exact ba_ext (by simp[app_data,ofL_toList])
  all_goals
   simp only[ByteArray.size_append,ofL_size,bsz,List.length_append,List.length_cons,List.length_nil,List.size_toArray]
   omega
theorem rsgn2 {p:S112} (hk:4≤p.f0∧p.f0≤5) (l:List (List UInt8)) (hl:l.length=1) (hs:lsz l≤100000000):
 Ev (fun k=>(legationref06_Sign.f k p.f0).bind fun t=>if t.size+1≤9223372036854775807 then(if 0<((l.map ofL).length:Int)then(if(t++(⟨#[32]⟩:ByteArray)).size+(rdOf ByteArray.empty (l.map ofL) 0).size≤9223372036854775807 then some ((t++(⟨#[32]⟩:ByteArray))++(rdOf ByteArray.empty (l.map ofL) 0))else none)else none)else none) (ofL (partT p l)):=by
 have hz:=sgnT_len p.f0 (by omega);have hg:=get2_len l;have hr0:rdOf ByteArray.empty (l.map ofL) 0=ofL (l.getD 0 []):=rd_ofL (i:=0) (by omega);refine Ev.bind (rsign_ev (by omega)) ?_;rw[hr0];refine Ev.yes (by rw[ofL_size];omega) (Ev.yes (by rw[List.length_map];omega) (Ev.yes (by simp only[ByteArray.size_append,ofL_size,bsz,List.size_toArray,List.length_cons,List.length_nil];omega) (Ev.nowE ?_)));rw[show partT p l=sgnT p.f0++32::l.getD 0 []by
  unfold partT;rw[if_neg (by omega),if_neg (by omega),if_neg (by omega),if_pos (by omega)]]
 exact ba_ext (by simp[app_data,ofL_toList])
theorem rtextp_ev {p:S112} (h:partOK p=true) (l:List (List UInt8)) (hl:(l.length:Int)=fneeds p.f0 p.f3) (hs:lsz l≤100000000):
 Ev (fun k=>legationref06_text.f k p.f0 p.f1.f0 p.f1.f1 p.f1.f2 p.f1.f3 p.f2 p.f3 (l.map ofL)) (ofL (partT p l)):=by
 have hk:=part_kind h;have hn:=part_needs h;have hle:=(fneeds_le p.f0 p.f3).2;have hg:=get2_len l;unfold legationref06_text.f;by_cases h1:p.f0=1
 ·refine Ev.yes h1 ?_;refine Ev.bind (rtext_ev p.f1.f0 p.f1.f1 p.f1.f2 p.f1.f3 (part_one h h1).1) ?_;rw[show partT p l=ttext (T p.f1)from if_pos h1];exact Ev.now _
 refine Ev.no h1 ?_;by_cases h2:p.f0=2
 ·have:=part_name h (.inl h2);refine Ev.yes h2 (Ev.yes (by omega) (Ev.nowE ?_));rw[show partT p l=63::p.f2.data.toList by unfold partT;rw[if_neg h1,if_pos h2]];exact ba_ext (by simp[app_data,ofL_toList])
 refine Ev.no h2 ?_;by_cases h3:p.f0=3
 ·have:=part_name h (.inr h3);refine Ev.yes h3 (Ev.yes (by omega) (Ev.yes (by simp only[ByteArray.size_append,bsz,List.size_toArray,List.length_cons,List.length_nil];omega) (Ev.nowE ?_)));rw[show partT p l= [66,79,85,78,68,32,40,32,63]++p.f2.data.toList++ [32,41]by unfold partT;rw[if_neg h1,if_neg h2,if_pos h3]];exact ba_ext (by simp[app_data,ofL_toList])
 refine Ev.no h3 ?_;by_cases h4:p.f0=4
 ·refine Ev.yes h4 ?_;exact rsgn2 (by omega) l (by have:=hn.1 (by omega) (by omega);omega) hs
 refine Ev.no h4 ?_;by_cases h5:p.f0=5
 ·refine Ev.yes h5 ?_;exact rsgn2 (by omega) l (by have:=hn.1 (by omega) (by omega);omega) hs
 refine Ev.no h5 ?_;by_cases h17:p.f0<18
 ·refine Ev.yes h17 ?_;have hl2:l.length=2:=(by have:=hn.2.1 (by omega) (by omega);omega);have hz:=sgnT_len p.f0 (by omega);have hr0:rdOf ByteArray.empty (l.map ofL) 0=ofL (l.getD 0 []):=rd_ofL (i:=0) (by omega);have hr1:rdOf ByteArray.empty (l.map ofL) 1=ofL (l.getD 1 []):=rd_ofL (i:=1) (by omega);simp only[hr0,hr1,List.length_map];refine Ev.yes (by omega) (Ev.yes ?_ (Ev.yes ?_ (Ev.bind (rsign_ev (by omega)) (Ev.yes ?_ (Ev.yes ?_ (Ev.yes (by omega) (Ev.yes ?_ (Ev.yes ?_ (Ev.nowE ?_)))))))));rotate_right
  ·rw[show partT p l= [40,32]++l.getD 0 []++ [32]++sgnT p.f0++ [32]++l.getD 1 []++ [32,41]by
    unfold partT;rw[if_neg h1,if_neg h2,if_neg h3,if_neg (by omega),if_pos (by omega)]]
   exact ba_ext (by simp[app_data,ofL_toList])
  all_goals
   simp only[ByteArray.size_append,ofL_size,bsz,List.length_append,List.length_cons,List.length_nil,List.size_toArray]
   omega
 refine Ev.no h17 ?_;have hl1:1≤l.length:=(by have:=hn.2.2 (by omega);omega);have hz:=sgnT_len p.f0 (by omega);have hr0:rdOf ByteArray.empty (l.map ofL) 0=ofL (l.getD 0 []):=rd_ofL (i:=0) (by omega);rw[rword_eq (by omega)];simp only[Option.bind_some,hr0,List.length_map];refine Ev.yes (by rw[ofL_size];omega) (Ev.yes (by omega) (Ev.yes (by simp only[ByteArray.size_append,ofL_size,bsz,List.size_toArray,List.length_cons,List.length_nil];omega) ?_));have h':=rloop (sgnT p.f0++ [32,40,32]) (by simp;omega) l (by omega) hs (l.drop 1) 1 rfl (by decide);rw[show partT p l=sgnT p.f0++ [32,40,32]++comA l++ [32,41]by
  unfold partT;rw[if_neg (by omega),if_neg (by omega),if_neg (by omega),if_neg (by omega),if_neg (by omega)]]
 refine Ev.cast (fun k=>?_) h';congr 1;cases l with
 |nil=>simp at hl1
 |cons x r=>exact ba_ext (by simp[app_data,ofL_toList,comA])
end Go.Proofs.Ytcfoebkbahpnaaa.L
