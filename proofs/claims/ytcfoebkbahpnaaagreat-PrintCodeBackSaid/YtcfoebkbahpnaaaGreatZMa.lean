import Derived.Test.YtcfoebkbahpnaaaGreatZLy
set_option linter.unusedSectionVars false
/- All words of a right code's text are words; the last one closes it. -/
set_option linter.unusedVariables false
set_option linter.unusedSimpArgs false
namespace Go.Proofs.YtcfoebkbahpnaaaGreat.Ab
open Go Go.Proofs.YtcfoebkbahpnaaaGreat

def AllOK (ws : List TokS) : Prop := ∀ w ∈ ws, WordOK w
theorem ok_nil:AllOK []:=fun w h=>by cases h
theorem ok_cons {w:TokS} {r:List TokS} (h:WordOK w) (k:AllOK r):AllOK (w::r):=fun v hv=>by
 rcases List.mem_cons.1 hv with rfl|hv
 ·exact h
 exact k v hv
theorem ok_app {a b:List TokS} (h:AllOK a) (k:AllOK b):AllOK (a++b):=fun v hv=>by
 rcases List.mem_append.1 hv with hv|hv
 ·exact h v hv
 exact k v hv
theorem ok_one {w:TokS} (h:WordOK w):AllOK [w]:=ok_cons h ok_nil
theorem ok_flat {α:Type} {f:α→List TokS} {l:List α} (h: ∀ x ∈ l,AllOK (f x)):AllOK (l.flatMap f):=fun w hw=>by
 obtain⟨x,hx,hw⟩:=List.mem_flatMap.1 hw;exact h x hx w hw
theorem ok_map {α:Type} {f:α→TokS} {l:List α} (h: ∀ x ∈ l,WordOK (f x)):AllOK (l.map f):=fun w hw=>by
 obtain⟨x,hx,rfl⟩:=List.mem_map.1 hw;exact h x hx
theorem ok_sig {x:List UInt8} (h:x ∈ signs):WordOK (wSig x):= .sign rfl rfl h
theorem ok_key {x:List UInt8} (h:x.all isLet=true) (hn:x≠ []):WordOK (wKey x):= .word rfl rfl h hn
theorem ok_var {s:ByteArray} (h:okName s.data.toList=true):WordOK (wVar s):= .var rfl rfl h
theorem ok_tm {t:TermS} (h:okTm (T t)=true) (hi:t.f0=1∨t.f0=2):WordOK (wTm t):= .term rfl rfl h hi
theorem ok_of {t:TermS} (h:okTm (T t)=true) (h3:t.f0≠3):WordOK (wOf t):=by
 unfold wOf;by_cases h0:t.f0=0
 ·rw[if_pos h0];exact ok_key (by decide) (by decide)
 rw[if_neg h0];by_cases h4:t.f0=4
 ·rw[if_pos h4];exact ok_var ((okTm_other h (show(T t).k≠2 by show t.f0≠2;omega)).2.2.2.2.2.1 (.inr h4))
 rw[if_neg h4];refine ok_tm h ?_;by_cases k2:(T t).k=2
 ·exact .inr k2
 have:=(okTm_other h k2).2.2.2.2.2.2;have e:(T t).k=t.f0:=rfl;rw[e]at this;omega
theorem sgn_sign {k:Int} (h:4≤k∧k≤17):sgnT k ∈ signs:=by
 have key: ∀ n:Fin 27,4≤n.val→n.val≤17→signL.getD n.val [] ∈ signs:=(by decide);exact key ⟨k.toNat,by omega⟩ (by simp;omega) (by simp;omega)
theorem sgn_word {k:Int} (h:18≤k∧k≤26):(sgnT k).all isLet=true∧sgnT k≠ []:=by
 have key: ∀ n:Fin 27,18≤n.val→(signL.getD n.val []).all isLet=true∧signL.getD n.val [] ≠ []:=(by decide);exact key ⟨k.toNat,by omega⟩ (by simp;omega)
theorem getD_ok {l:List (List TokS)} (h: ∀ x ∈ l,AllOK x) (i:Nat):AllOK (l.getD i []):=by
 rw[List.getD_eq_getElem?_getD];cases hi:l[i]? with
 |none=>exact ok_nil
 |some x=>exact h x (List.mem_of_getElem? hi)
theorem partOK_ok {p:PartS} (h:partOK p=true) {l:List (List TokS)} (hl: ∀ x ∈ l,AllOK x):AllOK (partW p l):=by
 have hk:=part_kind h;obtain⟨f1,f23,f4⟩:=part_form h;have s40:WordOK (wSig [40]):=ok_sig (by decide);have s41:WordOK (wSig [41]):=ok_sig (by decide);unfold partW;by_cases h1:p.f0=1
 ·rw[if_pos h1];exact ok_one (ok_tm (f1 h1).2.1 (f1 h1).2.2)
 rw[if_neg h1];by_cases h2:p.f0=2
 ·rw[if_pos h2];exact ok_one (ok_var (f23 (.inl h2)).2)
 rw[if_neg h2];by_cases h3:p.f0=3
 ·rw[if_pos h3];exact ok_cons (ok_key (by decide) (by decide)) (ok_cons s40 (ok_cons (ok_var (f23 (.inr h3)).2) (ok_one s41)))
 rw[if_neg h3];by_cases h5:p.f0≤5
 ·rw[if_pos h5];exact ok_cons (ok_sig (sgn_sign (by omega))) (getD_ok hl 0)
 rw[if_neg h5];by_cases h17:p.f0≤17
 ·rw[if_pos h17];exact ok_cons s40 (ok_app (getD_ok hl 0) (ok_cons (ok_sig (sgn_sign (by omega))) (ok_app (getD_ok hl 1) (ok_one s41))))
 rw[if_neg h17];obtain⟨w1,w2⟩:=sgn_word (k:=p.f0) (by omega);refine ok_cons (ok_key w1 w2) (ok_cons s40 (ok_app ?_ (ok_one s41)));cases l with
 |nil=>exact ok_nil
 |cons x r=>exact ok_app (hl x (List.mem_cons_self ..)) (ok_flat fun y hy=>ok_cons (ok_sig (by decide)) (hl y (List.mem_cons_of_mem _ hy)))
theorem form_ok: ∀ (r:List PartS) (l:List (List TokS)),(∀ p ∈ r,partOK p=true)→(∀ x ∈ l,AllOK x)→ ∀ x ∈ formW r l,AllOK x
 | [],l,_,hl=>hl
 |p::r,l,hp,hl=>by
  rw[formW];(refine form_ok r _ (fun q hq=>hp q (List.mem_cons_of_mem _ hq)) fun x hx=>?_);rcases List.mem_append.1 hx with hx|hx
  ·exact hl x (List.mem_of_mem_take hx)
  rw[List.mem_singleton.1 hx];exact partOK_ok (hp p (List.mem_cons_self ..)) fun y hy=>hl y (List.mem_of_mem_drop hy)
theorem fchk_all: ∀ (x:List PartS) (n:Int),fchk n x=0→ ∀ p ∈ x,partOK p=true
 | [],n,_,p,hp=>by cases hp
 |q::r,n,h,p,hp=>by
  unfold fchk at h;cases hq:partOK q with
  |false=>rw[hq]at h;simp at h
  |true=>
   rw[hq,if_pos rfl]at h;split at h
   ·cases h
   rcases List.mem_cons.1 hp with rfl|hp
   ·exact hq
   exact fchk_all r _ h p hp
theorem fW_ok {x:List PartS} (h:fcheck x=0):AllOK (fW x):=by
 have h1:=(fW_J h).1;exact form_ok x [] (fchk_all x 0 (fcheck_ok h).2) (fun y hy=>by cases hy) (fW x) (by rw[h1];exact List.mem_singleton.2 rfl)
theorem nm_all: ∀ (l:List (List UInt8)) (p:List (List UInt8)),nmOK p l=true→ ∀ s ∈ l,okName s=true
 | [],_,_,s,hs=>by cases hs
 |v::r,p,h,s,hs=>by
  simp only[nmOK,Bool.and_eq_true]at h;rcases List.mem_cons.1 hs with rfl|hs
  ·exact h.1.1
  exact nm_all r _ h.2 s hs
theorem op_ok {o:OpS} (h:opOK o=true) {l:List (List TokS)} (hl: ∀ x ∈ l,AllOK x):AllOK (opW o l):=by
 have hF:=opF_of h;have hk:=hF.k;have hl0:=getD_ok hl 0;have hl1:=getD_ok hl 1;have s40:WordOK (wSig [40]):=ok_sig (by decide);have s41:WordOK (wSig [41]):=ok_sig (by decide);have s123:WordOK (wSig [123]):=ok_sig (by decide);have s125:WordOK (wSig [125]):=ok_sig (by decide);have hlast:=h;unfold opOK lastOK at hlast;simp only[Bool.and_eq_true]at hlast;have hlast:=hlast.2.2.2;unfold opW;by_cases h1:o.f0=1
 ·rw[if_pos h1];refine ok_cons s123 (ok_app (ok_flat fun t ht=>?_) (ok_one s125));obtain⟨p0,p1,p2⟩:=pat_pl ((opOK_basic h h1).2 t ht);exact ok_cons (ok_of p0.1 (by have:=p0.2;omega)) (ok_cons (ok_of p1.1 (by have:=p1.2;omega)) (ok_cons (ok_of p2.1 (by have:=p2.2;omega)) (ok_one (ok_sig (by decide)))))
 rw[if_neg h1]at hlast ⊢;by_cases h2:o.f0=2
 ·rw[if_pos h2]at hlast ⊢;unfold tabV at hlast;simp only[Bool.and_eq_true,List.all_eq_true]at hlast;refine ok_cons s123 (ok_cons (ok_key (by decide) (by decide)) (ok_cons s40 (ok_app (ok_map fun v hv=>ok_var (nm_all _ _ hlast.2.2.1 _ (List.mem_map_of_mem hv))) (ok_cons s41 (ok_cons s123 (ok_app (ok_flat fun row hr=>?_) (ok_cons s125 (ok_one s125))))))));have:=hlast.2.2.2 row hr;unfold rowV at this;simp only[Bool.and_eq_true,List.all_eq_true]at this;refine ok_cons s40 (ok_app (ok_map fun t ht=>?_) (ok_one s41));have hc:=this.2 t ht;unfold cellV at hc;simp only[Bool.and_eq_true,Bool.not_eq_true',beq_eq_false_iff_ne]at hc;exact ok_of hc.1.1 hc.1.2
 rw[if_neg h2]at hlast ⊢;by_cases h3:o.f0=3
 ·rw[if_pos h3];exact ok_cons s123 (ok_app hl0 (ok_app hl1 (ok_one s125)))
 rw[if_neg h3];by_cases h4:o.f0=4
 ·rw[if_pos h4];exact ok_cons s123 (ok_app hl0 (ok_cons (ok_key (by decide) (by decide)) (ok_app hl1 (ok_one s125))))
 rw[if_neg h4];by_cases h6:o.f0=6
 ·rw[if_pos h6];exact ok_cons s123 (ok_app hl0 (ok_cons (ok_key (by decide) (by decide)) (ok_app hl1 (ok_one s125))))
 rw[if_neg h6];by_cases h5:o.f0=5
 ·rw[if_pos h5];split
  ·exact ok_cons s123 (ok_app hl0 (ok_cons (ok_key (by decide) (by decide)) (ok_cons s123 (ok_app hl1 (ok_cons s125 (ok_one s125))))))
  rename_i hne;exact ok_cons s123 (ok_app hl0 (ok_cons (ok_key (by decide) (by decide)) (ok_cons s123 (ok_app hl1 (ok_cons (ok_key (by decide) (by decide)) (ok_cons s40 (ok_app (fW_ok ((hF.e h5).resolve_left hne).2) (ok_cons s41 (ok_cons s125 (ok_one s125))))))))))
 rw[if_neg h5];by_cases h7:o.f0=7
 ·rw[if_pos h7];exact ok_cons s123 (ok_app hl0 (ok_cons (ok_key (by decide) (by decide)) (ok_cons s40 (ok_app (fW_ok (hF.f (.inl h7))) (ok_cons s41 (ok_one s125))))))
 rw[if_neg h7];by_cases h8:o.f0=8
 ·rw[if_pos h8]at hlast;rw[if_pos h8];exact ok_cons s123 (ok_app hl0 (ok_cons (ok_key (by decide) (by decide)) (ok_cons s40 (ok_app (fW_ok (hF.f (.inr h8))) (ok_cons (ok_key (by decide) (by decide)) (ok_cons (ok_var hlast) (ok_cons s41 (ok_one s125))))))))
 rw[if_neg h8]at hlast ⊢;rw[if_pos (show o.f0=9 by omega)]at hlast;have hs:AllOK (if o.f5=true then [wKey [83,73,76,69,78,84]]else []):=by
  split
  ·exact ok_one (ok_key (by decide) (by decide))
  exact ok_nil
 exact ok_cons s123 (ok_cons (ok_key (by decide) (by decide)) (ok_app hs (ok_cons (ok_tm hlast (.inl rfl)) (ok_app hl0 (ok_one s125)))))
theorem code_all {P:List TokS→Prop}: ∀ (r:List OpS) (l:List (List TokS)),(∀ o ∈ r,∀ l,(∀ x ∈ l,P x)→P (opW o l))→(∀ x ∈ l,P x)→ ∀ x ∈ codeW r l,P x
 | [],l,_,hl=>hl
 |o::r,l,hp,hl=>by
  rw[codeW];(refine code_all r _ (fun q hq=>hp q (List.mem_cons_of_mem _ hq)) fun x hx=>?_);rcases List.mem_append.1 hx with hx|hx
  ·exact hl x (List.mem_of_mem_take hx)
  rw[List.mem_singleton.1 hx];exact hp o (List.mem_cons_self ..) _ fun y hy=>hl y (List.mem_of_mem_drop hy)
theorem run_all: ∀ (c:List OpS) (n:Nat),okRunP n c→ ∀ o ∈ c,opOK o=true
 | [],_,_,o,h=>by cases h
 |q::r,n,hc,o,h=>by
  obtain⟨h1,_,h3⟩:=hc;rcases List.mem_cons.1 h with rfl|h
  ·exact h1
  exact run_all r _ h3 o h
theorem last_of: ∀ {ws:List TokS} {w:TokS},ws.getLast? =some w→Last w→LastOK ws
 | [],_,_,_=>trivial
 | [v],w,h,hw=>by simp at h;subst h;exact hw
 |_::v::r,w,h,hw=>by rw[List.getLast?_cons_cons]at h;exact last_of (ws:=v::r) h hw
theorem op_last (o:OpS) (l:List (List TokS)):(opW o l).getLast? =some (wSig [125]):=by
 (have key: ∀ (a:List TokS) (w:TokS),(a++ [w]).getLast? =some w:=fun a w=>by simp);have k2: ∀ (v w:TokS) (a:List TokS),a≠ []→a.getLast? =some w→(v::a).getLast? =some w:=fun v w a ha h=>by
  cases a with
  |nil=>exact absurd rfl ha
  |cons x r=>rw[List.getLast?_cons_cons];exact h
 unfold opW basW tabW;(repeat' split)<;>simp[List.getLast?_append,List.getLast?_cons]
theorem cW_ok {c:List OpS} (h:okRunP 0 c):AllOK (cW c)∧LastOK (cW c):=by
 have h1:=(cW_J h).1;have hm:cW c ∈ codeW c []:=(by rw[h1];exact List.mem_singleton.2 rfl);refine⟨code_all (P:=AllOK) c [] (fun o ho l hl=>op_ok (run_all c 0 h o ho) hl) (fun x hx=>by cases hx) _ hm,last_of (w:=wSig [125]) ?_ rfl⟩;exact code_all (P:=fun x=>x.getLast? =some (wSig [125])) c [] (fun o ho l hl=>op_last o l) (fun x hx=>by cases hx) _ hm
end Go.Proofs.YtcfoebkbahpnaaaGreat.Ab

/- What the reference's SameCode says of a code and the rows that read as it; the law. -/
set_option linter.unusedVariables false
set_option linter.unusedSimpArgs false
namespace Go.Proofs.YtcfoebkbahpnaaaGreat.Ab
open Go Go.Proofs.YtcfoebkbahpnaaaGreat

theorem rows_tri_eq: ∀ {a:RW} {l:List TriS},RowsR rTri a l→a=l.map eTri
 | [],[],_=>rfl
 |_::_,_::_,h=>by rw[List.map_cons,← rows_tri_eq h.2,h.1]
 | [],_::_,h=>h.elim
 |_::_,[],h=>h.elim
theorem rows_part_eq: ∀ {a:RW} {l:List PartS},RowsR rPart a l→a=l.map ePart
 | [],[],_=>rfl
 |_::_,_::_,h=>by rw[List.map_cons,← rows_part_eq h.2,h.1]
 | [],_::_,h=>h.elim
 |_::_,[],h=>h.elim
theorem rows_term_eq: ∀ {a:RW} {l:List TermS},RowsR rTerm a l→a=l.map eTerm
 | [],[],_=>rfl
 |_::_,_::_,h=>by rw[List.map_cons,← rows_term_eq h.2,h.1]
 | [],_::_,h=>h.elim
 |_::_,[],h=>h.elim
theorem rows_str_eq: ∀ {a:RW} {l:List ByteArray},RowsR rStr a l→a=srow l
 | [],[],_=>rfl
 |_::_,_::_,h=>by show _= [S _]::srow _;rw[← rows_str_eq h.2,h.1]
 | [],_::_,h=>h.elim
 |_::_,[],h=>h.elim
theorem rows_get {α:Type} {r:List DV→α→Prop}: ∀ {rows:RW} {l:List α},RowsR r rows l→ ∀ {i:Nat} {x:α},l[i]? =some x→ ∃ a,rows[i]? =some a∧r a x
 | [],[],_,i,x,hx=>by simp at hx
 |a::_,y::_,h,0,x,hx=>by simp at hx;subst hx;exact⟨a,rfl,h.1⟩
 |_::_,_::_,h,i+1,x,hx=>rows_get h.2 (by simpa using hx)
 | [],_::_,h,_,_,_=>h.elim
 |_::_,[],h,_,_,_=>h.elim
theorem sl_fun {α:Type} {n:Nat} {r:List DV→α→Prop} {c:DV} {l:List α} (h:slR n r c l): ∃ rows,RowsR r rows l∧ ∀ K:RW→Option R,slC n c K=K rows:=by
 rcases h with ⟨rfl,rfl⟩|⟨rows,rfl,h⟩
 ·exact⟨[],trivial,fun K=>rfl⟩
 exact⟨rows,h,fun K=>by unfold slC;simp only[Nat.beq_refl,cond_true]⟩
theorem rd_rop {rows:RW} {l:List OpS} (h:RowsR rOp rows l) {i:Nat} {o:OpS} (hi:l[i]? =some o): ∃ R3,RowsR rRow R3 o.f2.f1∧ ∀ K,rd_il12l1l1l7sb rows i K=K o.f0 (o.f1.map eTri) (srow o.f2.f0) R3 (o.f3.map ePart) o.f4 o.f5:=by
 obtain⟨row,hr,a,b,c,d,rfl,h1,h2,h3,h4⟩:=rows_get h hi;obtain⟨r1,k1,e1⟩:=sl_fun h1;obtain⟨r2,k2,e2⟩:=sl_fun h2;obtain⟨r3,k3,e3⟩:=sl_fun h3;obtain⟨r4,k4,e4⟩:=sl_fun h4;rw[rows_tri_eq k1]at e1;rw[rows_str_eq k2]at e2;rw[rows_part_eq k4]at e4;refine⟨r3,k3,fun K=>?_⟩;unfold rd_il12l1l1l7sb rowC;rw[hr];simp only[hdC,i64C,strC,boolC,e1,e2,e3,e4]
theorem rd_rrow {rows:RW} {l:List (List TermS)} (h:RowsR rRow rows l) {i:Nat} {x:List TermS} (hi:l[i]? =some x) (K:RW→Option R):rd_l4 rows i K=K (x.map eTerm):=by
 obtain⟨row,hr,c,rfl,h1⟩:=rows_get h hi;obtain⟨r1,k1,e1⟩:=sl_fun h1;rw[rows_term_eq k1]at e1;unfold rd_l4 rowC;rw[hr];simp only[hdC,e1]
theorem strEq_self (s:ByteArray):strEq s s=true:=(strEq_iffL s s).2 rfl
theorem dec_self (a:Int):decide (a=a)=true:=decide_eq_true rfl
theorem fsame_l (x:List PartS) (hx:x.length<4611686018427387904) (k0:Option R) (kr:Bool→Option R): ∀ (r:List PartS) (i m:Nat),x.drop i=r→r.length<m→legationref06_Same.l4 m (x.map ePart) (x.map ePart) (i:Int) k0 kr=k0
 |r,i,0,hd,hm=>by omega
 | [],i,m+1,hd,hm=>by
  have:=len_drop hd;rw[legationref06_Same.l4];simp only[bifd,List.length_map];rw[if_neg (by omega)]
 |c::r,i,m+1,hd,hm=>by
  obtain⟨hg,hi,hr,_⟩:=get_drop hd;have ih:=fsame_l x hx k0 kr r (i+1) m hr (by simpa using hm);rw[legationref06_Same.l4];simp only[bifd,bifd2,List.length_map,Int.toNat_natCast];rw[if_pos (by omega),if_pos (by omega),rd_part hg,rd_part hg];simp only[dec_self,strEq_self,Bool.and_self,Bool.not_true,cond_false];rw[if_pos (by omega),wr_succ (by omega)];exact ih
theorem fsame_g (x:List PartS) {n:Nat} (hx:x.length<n) (hn:n<4611686018427387904) (K:Bool→Option R):legationref06_Same.g n (x.map ePart) (x.map ePart) K=K true:=by
 unfold legationref06_Same.g;rw[dec_self,Bool.not_true,cond_false];exact fsame_l x (by omega) (K true) K x 0 n rfl hx
theorem tsame_l (x:List TriS) (hx:x.length<4611686018427387904) (k0:Option R) (kr:Bool→Option R): ∀ (r:List TriS) (i m:Nat),x.drop i=r→r.length<m→legationref03_Same.l4 m (x.map eTri) (x.map eTri) (i:Int) k0 kr=k0
 |r,i,0,hd,hm=>by omega
 | [],i,m+1,hd,hm=>by
  have:=len_drop hd;rw[legationref03_Same.l4];simp only[bifd,List.length_map];rw[if_neg (by omega)]
 |c::r,i,m+1,hd,hm=>by
  obtain⟨hg,hi,hr,_⟩:=get_drop hd;have ih:=tsame_l x hx k0 kr r (i+1) m hr (by simpa using hm);rw[legationref03_Same.l4];simp only[bifd,bifd2,List.length_map,Int.toNat_natCast];rw[if_pos (by omega),if_pos (by omega),rd_tri hg,rd_tri hg];simp only[dec_self,strEq_self,Bool.and_self,Bool.not_true,cond_false];rw[if_pos (by omega),wr_succ (by omega)];exact ih
theorem tsame_g (x:List TriS) {n:Nat} (hx:x.length<n) (hn:n<4611686018427387904) (K:Bool→Option R):legationref03_Same.g n (x.map eTri) (x.map eTri) K=K true:=by
 unfold legationref03_Same.g;rw[dec_self,Bool.not_true,cond_false];exact tsame_l x (by omega) (K true) K x 0 n rfl hx
theorem ssame_l (x:List ByteArray) (hx:x.length<4611686018427387904) (k0:Option R) (kr:Bool→Option R): ∀ (r:List ByteArray) (i m:Nat),x.drop i=r→r.length<m→legationref03_SameTexts.l4 m (srow x) (srow x) (i:Int) k0 kr=k0
 |r,i,0,hd,hm=>by omega
 | [],i,m+1,hd,hm=>by
  have:=len_drop hd;rw[legationref03_SameTexts.l4];simp only[bifd,srow_len];rw[if_neg (by omega)]
 |c::r,i,m+1,hd,hm=>by
  obtain⟨hg,hi,hr,_⟩:=get_drop hd;have ih:=ssame_l x hx k0 kr r (i+1) m hr (by simpa using hm);rw[legationref03_SameTexts.l4];simp only[bifd,bifd2,srow_len,Int.toNat_natCast];rw[if_pos (by omega),if_pos (by omega),rd_s_ok hg,rd_s_ok hg];simp only[strEq_self,Bool.not_true,cond_false];rw[if_pos (by omega),wr_succ (by omega)];exact ih
theorem ssame_g (x:List ByteArray) {n:Nat} (hx:x.length<n) (hn:n<4611686018427387904) (K:Bool→Option R):legationref03_SameTexts.g n (srow x) (srow x) K=K true:=by
 unfold legationref03_SameTexts.g;rw[dec_self,Bool.not_true,cond_false];exact ssame_l x (by omega) (K true) K x 0 n rfl hx
section
variable {a0:Int} {a1 a2 a4:RW} {a5:ByteArray} {a6:Bool} {b0:Int} {b1 b2 b4:RW} {b5:ByteArray} {b6:Bool} {rows:List (List TermS)} (hrl:rows.length<4611686018427387904) {R3:RW} (hR:RowsR rRow R3 rows)
include hrl hR
theorem cellS_l {j:Nat} {row:List TermS} (hj:rows[j]? =some row) (hl:row.length<4611686018427387904) (k2:Int→Int→RW→RW→RW→RW→ByteArray→Bool→Int→RW→RW→RW→RW→ByteArray→Bool→Option R) (kr:Bool→Option R): ∀ (r:List TermS) (i m:Nat),row.drop i=r→r.length<m→
 legationref08_SameOp.l11 m (j:Int) (i:Int) a0 a1 a2 (rows.map eRow) a4 a5 a6 b0 b1 b2 R3 b4 b5 b6 k2 kr=k2 (j:Int) a0 a1 a2 (rows.map eRow) a4 a5 a6 b0 b1 b2 R3 b4 b5 b6
 |r,i,0,hd,hm=>by omega
 | [],i,m+1,hd,hm=>by
  have:=len_drop hd;have hjl:j<rows.length:=(List.getElem?_eq_some_iff.1 hj).1;rw[legationref08_SameOp.l11];simp only[bifd,bifd2,List.length_map,Int.toNat_natCast];rw[if_pos (by omega),rd_row hj,List.length_map,if_neg (by omega)]
 |c::r,i,m+1,hd,hm=>by
  obtain⟨hg,hi,hr,_⟩:=get_drop hd;have hjl:j<rows.length:=(List.getElem?_eq_some_iff.1 hj).1;have hlen:=rows_len hR;have ih:=cellS_l hj hl k2 kr r (i+1) m hr (by simpa using hm);rw[legationref08_SameOp.l11];simp only[bifd,bifd2,List.length_map,Int.toNat_natCast];rw[if_pos (by omega),rd_row hj,List.length_map,if_pos (by omega),if_pos (by omega),rd_row hj,List.length_map,if_pos (by omega),rd_term hg,if_pos (by omega),rd_rrow hR hj,List.length_map,if_pos (by omega),rd_term hg];simp only[dec_self,strEq_self,Bool.and_self,Bool.not_true,cond_false];rw[wr_succ (by omega)];exact ih
theorem rowS_l {n:Nat} (hn: ∀ r ∈ rows,r.length<n) (hn1:n<4611686018427387904) (k0:Option R) (kr:Bool→Option R): ∀ (r:List (List TermS)) (j m:Nat),rows.drop j=r→r.length<m→
 legationref08_SameOp.l6 n m (j:Int) a0 a1 a2 (rows.map eRow) a4 a5 a6 b0 b1 b2 R3 b4 b5 b6 k0 kr=k0
 |r,j,0,hd,hm=>by omega
 | [],j,m+1,hd,hm=>by
  have:=len_drop hd;rw[legationref08_SameOp.l6];simp only[bifd,List.length_map];rw[if_neg (by omega)]
 |row::r,j,m+1,hd,hm=>by
  obtain⟨hg,hi,hr,_⟩:=get_drop hd;have hlen:=rows_len hR;have hrn:=hn row (List.mem_of_getElem? hg);have ih:=rowS_l hn hn1 k0 kr r (j+1) m hr (by simpa using hm);have hc:=cellS_l hrl hR (a0:=a0) (a1:=a1) (a2:=a2) (a4:=a4) (a5:=a5) (a6:=a6) (b0:=b0) (b1:=b1) (b2:=b2) (b4:=b4) (b5:=b5) (b6:=b6) hg (by omega) (fun i12 i13 l30 l31 l32 l33 s13 p10 i14 l34 l35 l36 l37 s14 p11=>legationref08_SameOp.l6 n m (wr (i12+(1:Int))) i13 l30 l31 l32 l33 s13 p10 i14 l34 l35 l36 l37 s14 p11 k0 kr) kr row 0 n rfl hrn;rw[show((0:Nat):Int)=0 from rfl]at hc;rw[legationref08_SameOp.l6];simp only[bifd,bifd2,List.length_map,Int.toNat_natCast];rw[if_pos (by omega),if_pos (by omega),rd_row hg,if_pos (by omega),rd_rrow hR hg,dec_self,Bool.not_true,cond_false,hc,wr_succ (by omega)];exact ih
end
theorem sameOp_g (o:OpS) {n:Nat} (hf:Fuel n) (ho:o.lt n) {R3:RW} (hR:RowsR rRow R3 o.f2.f1) (K:Bool→Option R):
 legationref08_SameOp.g n o.f0 (o.f1.map eTri) (srow o.f2.f0) (o.f2.f1.map eRow) (o.f3.map ePart) o.f4 o.f5 o.f0 (o.f1.map eTri) (srow o.f2.f0) R3 (o.f3.map ePart) o.f4 o.f5 K=K true:=by
 have h1:=hf.2;have h2:=ho.a;have h3:=ho.c;have h4:=ho.e;have h5:=ho.g;have hlen:=rows_len hR;unfold legationref08_SameOp.g;rw[dec_self,Bool.not_true,cond_false,strEq_self,Bool.not_true,cond_false,show(o.f5==o.f5)=true by simp,Bool.not_true,cond_false,fsame_g _ h5 (by omega),Bool.not_true,cond_false,tsame_g _ h2 (by omega),Bool.not_true,cond_false,ssame_g _ h3 (by omega),Bool.not_true,cond_false,List.length_map,hlen,dec_self,Bool.not_true,cond_false];exact rowS_l (by omega) hR (fun r hr=>(ho.f r hr).1) (by omega) (K true) K o.f2.f1 0 n rfl h4
theorem sameCode_l (c:List OpS) {n:Nat} (hf:Fuel n) (hc:c.length<n) (ho: ∀ o ∈ c,o.lt n) {rows:RW} (hR:RowsR rOp rows c) (k0:Option R) (kr:Bool→Option R): ∀ (r:List OpS) (i m:Nat),c.drop i=r→r.length<m→
 legationref08_SameCode.l4 n m (c.map eOp) rows (i:Int) k0 kr=k0
 |r,i,0,hd,hm=>by omega
 | [],i,m+1,hd,hm=>by
  have:=len_drop hd;rw[legationref08_SameCode.l4];simp only[bifd,List.length_map];rw[if_neg (by omega)]
 |o::r,i,m+1,hd,hm=>by
  obtain⟨hg,hi,hr,_⟩:=get_drop hd;have hlen:=rows_len hR;have:=hf.2;obtain⟨R3,h3,hrd⟩:=rd_rop hR hg;have ih:=sameCode_l c hf hc ho hR k0 kr r (i+1) m hr (by simpa using hm);rw[legationref08_SameCode.l4];simp only[bifd,bifd2,List.length_map,Int.toNat_natCast];rw[if_pos (by omega),if_pos (by omega),rd_op hg,if_pos (by omega),hrd,sameOp_g o hf (ho o (List.mem_of_getElem? hg)) h3,Bool.not_true,cond_false,wr_succ (by omega)];exact ih
theorem sameCode_g (c:List OpS) {n:Nat} (hf:Fuel n) (hc:c.length<n) (ho: ∀ o ∈ c,o.lt n) {rows:RW} (hR:RowsR rOp rows c) (K:Bool→Option R):legationref08_SameCode.g n (c.map eOp) rows K=K true:=by
 have hlen:=rows_len hR;unfold legationref08_SameCode.g;rw[List.length_map,hlen,dec_self,Bool.not_true,cond_false];exact sameCode_l c hf hc ho hR (K true) K c 0 n rfl hc
/-! the law -/
def awC : List OpS := [opK 1, opK 1, opK 5]
theorem printCode_g {rows:RW} {c:List OpS} (hR:RowsR rOp rows c) {n:Nat} (hf:Fuel n) (hn:1000<n) (hc:c.length<n) (ho: ∀ o ∈ c,o.lt n) (K:ByteArray→Int→Option R):
 print_Code.g n rows K=if(resultsP c).2=0 then K (ofL (codeT c)) 0 else K ⟨#[]⟩ (resultsP c).2:=by
 unfold print_Code.g scope_Check.g;rw[unRows_mk unOp_mk hR];simp only[if_pos (show Fuel n∧c.length<n∧ ∀ o ∈ c,o.lt n from⟨hf,hc,ho⟩),bifn,bifd];by_cases h:(resultsP c).2=0
 ·rw[if_pos h,if_pos h];unfold print_code.g;rw[unRows_mk unOp_mk hR];have hl:c.length≤128:=by
   unfold resultsP at h;split at h
   ·cases h
   omega
  have hr:okRunP 0 c:=by
   unfold resultsP at h;rw[if_neg (by omega)]at h;exact resP_run c 0 [] [] 0 (resP 0 c [] [] 0).1 (Prod.ext rfl h)
  exact if_pos ⟨⟨hf,hn,ho⟩,hl,(okRun_iff c 0).2 hr⟩
 rw[if_neg h,if_neg h]
theorem res_run {c:List OpS} (h:(resultsP c).2=0):c.length≤128∧okRunP 0 c:=by
 have hl:c.length≤128:=by
  unfold resultsP at h;split at h
  ·cases h
  omega
 refine⟨hl,?_⟩;unfold resultsP at h;rw[if_neg (by omega)]at h;exact resP_run c 0 [] [] 0 (resP 0 c [] [] 0).1 (Prod.ext rfl h)
theorem opK_lt (k:Int) {n:Nat} (h:0<n):(opK k).lt n where
 a:=h
 b:=fun _ q=>by cases q
 c:=h
 d:=fun _ q=>by cases q
 e:=h
 f:=fun _ q=>by cases q
 g:=h
 h:=fun _ q=>by cases q
 i:=h
theorem awake_g {n:Nat} (hf:Fuel n) (hn:1000<n) (K:Bool→Option R):legationlaw09_awake.g n K=K true:=by
 have hR:RowsR rOp [[I 1,NIL,NIL,NIL,NIL,S ⟨#[]⟩,B false],[I 1,NIL,NIL,NIL,NIL,S ⟨#[]⟩,B false],[I 5,NIL,NIL,NIL,NIL,S ⟨#[]⟩,B false]] awC:=⟨(opK_row 1).1,(opK_row 1).1,(opK_row 5).1,trivial⟩;have hres:(resultsP awC).2=0:=(by decide+kernel);unfold legationlaw09_awake.g;rw[printCode_g hR hf hn (by show 3<n;omega) (fun o ho=>by
  simp only[awC,List.mem_cons,List.not_mem_nil,or_false]at ho;rcases ho with rfl|rfl|rfl<;>exact opK_lt _ (by omega)),if_pos hres]
 have ht:codeT awC= [123,32,123,32,125,32,79,80,84,73,79,78,65,76,32,123,32,123,32,125,32,125,32,125]:=(by decide+kernel);rw[ht];rfl
theorem law_g (c:List OpS) {n:Nat} (hf:Fuel n) (hn:40000≤n) (hc:c.length<n) (ho: ∀ o ∈ c,o.lt n) (K:Bool→Option R):legationlaw09_PrintCodeBack.g n (c.map eOp) K=K true:=by
 unfold legationlaw09_PrintCodeBack.g;rw[printCode_g (rows_op c) hf (by omega) hc ho];by_cases h:(resultsP c).2=0
 ·obtain⟨hl,hr⟩:=res_run h;obtain⟨_,hne,hJ⟩:=cW_J hr;obtain⟨hok,hlast⟩:=cW_ok hr;rw[if_pos h,dec_self,Bool.not_true,cond_false,bifd];by_cases h4:(4096:Int)<((ofL (codeT c)).size:Int)
  ·rw[if_pos h4,awake_g hf (by omega)]
  rw[if_neg h4];rw[ofL_size]at h4;have h2:=hf.2;rw[hJ]at h4 ⊢;rw[lex_g (cW c) hok hlast hne (by omega) (by omega) (by omega)];have hT:=toksAt_ok (cW c) 0;have hwl:(cW c).length≤4096:=by
   have key: ∀ ws:List TokS,AllOK ws→ws.length≤(J ws).length:=by
    intro ws;induction ws with
    |nil=>intro _;simp[J]
    |cons w r ih=>
     intro hw;obtain⟨c,q,hc,_⟩:=first_ns (hw w (List.mem_cons_self ..));(have hih:=ih fun u hu=>hw u (List.mem_cons_of_mem _ hu));cases r with
     |nil=>rw[J_one,hc];simp
     |cons v r=>rw[J_cons,hc];simp at hih ⊢;omega
   have:=key (cW c) hok;omega
  obtain⟨rows,hR,hq⟩:=code_g hf hn hT hwl ho hl hr h;rw[hq];simp only[show((List.map eTok (toksAt 0 (cW c))).length:Int)=((cW c).length:Int)by rw[hT.1],decide_true,cond_true];rw[sameCode_g c hf hc ho hR,cond_true,awake_g hf (by omega)]
 rw[if_neg h,decide_eq_false h,Bool.not_false,cond_true,awake_g hf (by omega)]
end Go.Proofs.YtcfoebkbahpnaaaGreat.Ab
