/- What the reader of groups comes to on a code's words. -/
import Derived.Test.YtcfoebkbahpnaaaGreatZLw
set_option linter.unusedSectionVars false
set_option linter.unusedVariables false
set_option linter.unusedSimpArgs false
namespace Go.Proofs.YtcfoebkbahpnaaaGreat.Ab
open Go Go.Proofs.YtcfoebkbahpnaaaGreat

/-- right operations by their kinds -/
theorem op_form {o:OpS} (h:opOK o=true):(o.f0=1∧o=⟨1,o.f1,⟨[],[]⟩,[],⟨#[]⟩,false⟩)∨(o.f0=2∧o=tabO o.f2.f0 o.f2.f1)∨(o.f0=3∧o=opK 3)∨(o.f0=4∧o=opK 4)∨(o.f0=6∧o=opK 6)∨
 (o.f0=5∧o=leftO o.f3)∨(o.f0=7∧o=filterO o.f3)∨(o.f0=8∧o=extO o.f3 o.f4)∨(o.f0=9∧o=servO o.f4 o.f5):=by
 have hF:=opF_of h;have hk:=hF.k;have h0:=h;unfold opOK at h;simp only[Bool.and_eq_true,Bool.not_eq_true']at h;obtain⟨_,hs,hfo,_⟩:=h;(have t1:=fun c=>opOK_tri h0 c);(have t2:=fun c=>opOK_tab h0 c);have hf0:formF o=false→o.f3= []:=fun e=>by
  unfold formOK at hfo;rw[e]at hfo;simp only[Bool.false_eq_true,if_false,beq_iff_eq]at hfo;exact List.eq_nil_of_length_eq_zero hfo
 have s5:o.f0≠9→o.f5=false:=fun c=>by
  unfold silentB at hs;rw[if_neg c]at hs;cases hq:o.f5 with
  |false=>rfl
  |true=>rw[hq]at hs;simp at hs
 have s4:o.f0≠9→o.f0≠8→o.f4=⟨#[]⟩:=fun c c'=>by
  unfold silentB at hs;rw[if_neg c,s5 c,if_neg (by decide),if_neg c']at hs;exact emp_of (by simpa using hs)
 have hff:o.f0≠5→o.f0≠7→o.f0≠8→formF o=false:=fun a b c=>by
  unfold formF;rw[beq_eq_false_iff_ne.2 a,beq_eq_false_iff_ne.2 b,beq_eq_false_iff_ne.2 c];rfl
 obtain⟨f0,f1,⟨f2,f2'⟩,f3,f4,f5⟩:=o;simp only at hk t1 t2 hf0 s5 s4 hff ⊢;have:f0=1∨f0=2∨f0=3∨f0=4∨f0=5∨f0=6∨f0=7∨f0=8∨f0=9:=(by omega);rcases this with rfl|rfl|rfl|rfl|rfl|rfl|rfl|rfl|rfl
 ·obtain⟨e1,e2⟩:=t2 (by decide);rw[e1,e2,hf0 (hff (by decide) (by decide) (by decide)),s4 (by decide) (by decide),s5 (by decide)];exact .inl ⟨rfl,rfl⟩
 ·rw[t1 (by decide),hf0 (hff (by decide) (by decide) (by decide)),s4 (by decide) (by decide),s5 (by decide)];exact .inr (.inl ⟨rfl,rfl⟩)
 ·obtain⟨e1,e2⟩:=t2 (by decide);rw[t1 (by decide),e1,e2,hf0 (hff (by decide) (by decide) (by decide)),s4 (by decide) (by decide),s5 (by decide)];exact .inr (.inr (.inl ⟨rfl,rfl⟩))
 ·obtain⟨e1,e2⟩:=t2 (by decide);rw[t1 (by decide),e1,e2,hf0 (hff (by decide) (by decide) (by decide)),s4 (by decide) (by decide),s5 (by decide)];exact .inr (.inr (.inr (.inl ⟨rfl,rfl⟩)))
 ·obtain⟨e1,e2⟩:=t2 (by decide);rw[t1 (by decide),e1,e2,s4 (by decide) (by decide),s5 (by decide)];exact .inr (.inr (.inr (.inr (.inr (.inl ⟨rfl,rfl⟩)))))
 ·obtain⟨e1,e2⟩:=t2 (by decide);rw[t1 (by decide),e1,e2,hf0 (hff (by decide) (by decide) (by decide)),s4 (by decide) (by decide),s5 (by decide)];exact .inr (.inr (.inr (.inr (.inl ⟨rfl,rfl⟩))))
 ·obtain⟨e1,e2⟩:=t2 (by decide);rw[t1 (by decide),e1,e2,s4 (by decide) (by decide),s5 (by decide)];exact .inr (.inr (.inr (.inr (.inr (.inr (.inl ⟨rfl,rfl⟩))))))
 ·obtain⟨e1,e2⟩:=t2 (by decide);rw[t1 (by decide),e1,e2,s5 (by decide)];exact .inr (.inr (.inr (.inr (.inr (.inr (.inr (.inl ⟨rfl,rfl⟩)))))))
 obtain⟨e1,e2⟩:=t2 (by decide);rw[t1 (by decide),e1,e2,hf0 (hff (by decide) (by decide) (by decide))];exact .inr (.inr (.inr (.inr (.inr (.inr (.inr (.inr ⟨rfl,rfl⟩)))))))
section
variable {n:Nat} (hf:Fuel n) (hn:40000≤n) {l:RW} {WS:List TokS} (hT:Toks l WS) (hW:WS.length≤4096)
include hf hn hT hW
/-! the loop of a group -/
theorem gr_end (h22:T22) (m:Nat) (A F:RW) {i:Nat} {r:List TokS} (hd:WS.drop i=wSig [125]::r) (k0:RW→RW→RW→Int→Bool→Option R):query_reader_group.l4 n h22 (m+1) A F l (i:Int) false k0=k0 A F l ((i+1:Nat):Int) false:=by
 rw[query_reader_group.l4,bifn,cond_false,show(⟨#[125]⟩:ByteArray)=ofL [125]from rfl,signq hT hW hd,if_pos ((sig_is _ _).2 rfl),bifn,cond_true]
theorem gr_elem (h22:T22) (m:Nat) (A B F:RW) {i j:Nat} {w:TokS} {q:List TokS} (hd:WS.drop i=w::q) (h2:w.k≠2) (h3:w.k≠3) (he:¬ isS w [125]) (hk:¬ isW w [70,73,76,84,69,82]) (hel: ∀ K,query_reader_element.g n h22 A l (i:Int) false K=K B l (j:Int) false) (k0:RW→RW→RW→Int→Bool→Option R):
 query_reader_group.l4 n h22 (m+1) A F l (i:Int) false k0=query_reader_group.l4 n h22 m B F l (j:Int) false k0:=by
 obtain⟨a,hr⟩:=nextq hT hW hd false;rw[query_reader_group.l4,bifn,cond_false,show(⟨#[125]⟩:ByteArray)=ofL [125]from rfl,show(⟨#[70,73,76,84,69,82]⟩:ByteArray)=ofL [70,73,76,84,69,82]from rfl,signq hT hW hd,if_neg he,bifn,cond_false,hr,bifd,if_neg h2,bifd,if_neg h3,keyq hT hW hd,if_neg hk,cond_false,hel]
theorem gr_filter (h22:T22) (m:Nat) (A:RW) {i:Nat} {x:List PartS} (hx:fcheck x=0) (hxl: ∀ p ∈ x,p.lt n) {r:List TokS} (hd:WS.drop i=wKey [70,73,76,84,69,82]::wSig [40]::(fW x++wSig [41]::r)) (k0:RW→RW→RW→Int→Bool→Option R):
 query_reader_group.l4 n h22 (m+1) A [] l (i:Int) false k0=query_reader_group.l4 n h22 m A [[.sl false 7 (x.map ePart)]] l ((i+((fW x).length+3):Nat):Int) false k0:=by
 obtain⟨a,hr⟩:=nextq hT hW hd false;have hd1:WS.drop (i+1)=wSig [40]::(fW x++wSig [41]::r):=(by rw[← List.drop_drop,hd];rfl);have hd2:WS.drop (i+1+1)=fW x++wSig [41]::r:=(by rw[← List.drop_drop,hd1];rfl);have hd3:WS.drop (i+1+1+(fW x).length)=wSig [41]::r:=drop_more hd2;rw[query_reader_group.l4,bifn,cond_false,show(⟨#[125]⟩:ByteArray)=ofL [125]from rfl,show(⟨#[70,73,76,84,69,82]⟩:ByteArray)=ofL [70,73,76,84,69,82]from rfl,show(⟨#[40]⟩:ByteArray)=ofL [40]from rfl,show(⟨#[41]⟩:ByteArray)=ofL [41]from rfl,signq hT hW hd,if_neg (not_sig (show(1:Int) ≠5 by decide) _),bifn,cond_false,hr,bifd,if_neg (show ¬(wKey [70,73,76,84,69,82]).k=2 by decide),bifd,if_neg (show ¬(wKey [70,73,76,84,69,82]).k=3 by decide),keyq hT hW hd,if_pos ((key_is _ _).2 rfl),cond_true,signq hT hW hd1,if_pos ((sig_is _ _).2 rfl),mustq,formq hT hW (by omega) hx hf hxl hn hd2 (free_sig (by omega:100<n) hT hW (.inl rfl))];rw[appC_ok (by simp) (by simp),signq hT hW hd3,if_pos ((sig_is _ _).2 rfl),mustq];rw[show i+1+1+(fW x).length+1=i+((fW x).length+3)by omega];rfl
theorem gr_tris (h22:T22) (m:Nat) {ts:List TriS} (hne:ts≠ []) (hts: ∀ t ∈ ts,patOK t=true∧t.lt n) (hl:ts.length≤100) {i:Nat} {r:List TokS} (hd:WS.drop i=ts.flatMap triW++wSig [125]::r) (k0:RW→RW→RW→Int→Bool→Option R):
 query_reader_group.l4 n h22 (m+1) [] [] l (i:Int) false k0=query_reader_group.l4 n h22 m [[I 1,.sl false 12 (ts.map eTri),.sl false 1 [],.sl false 1 [],.sl false 7 [],S ⟨#[]⟩,B false]] [] l ((i+(ts.flatMap triW).length:Nat):Int) false k0:=by
 obtain⟨t,ts',rfl⟩: ∃ t ts',ts=t::ts':=by
  cases ts with
  |nil=>exact absurd rfl hne
  |cons t r=>exact⟨t,r,rfl⟩
 have hp:=(pat_pl (hts t (List.mem_cons_self ..)).1).1;have hd0:WS.drop i=wOf t.f0::(wOf t.f1::wOf t.f2::wSig [46]::(ts'.flatMap triW++wSig [125]::r)):=(by rw[hd];simp[triW]);obtain⟨a,hr⟩:=nextq hT hW hd0 false;have htr: ∀ K,query_reader_triples.g n l (i:Int) false K=K 1 ((t::ts').map eTri) [] [] [] ⟨#[]⟩ false l ((i+((t::ts').flatMap triW).length:Nat):Int) false:=fun K=>by
  unfold query_reader_triples.g;exact trisq hf hT hW 0 [] [] [] [] ⟨#[]⟩ false 1 [] [] [] ⟨#[]⟩ false ⟨show(5:Int) ≠2 by decide,show(5:Int) ≠3 by decide⟩ _ (t::ts') i n [] hts hd (by simp at hl ⊢;omega) (by simp at hl ⊢;omega)
 have hjo: ∀ (b:RW) (K:RW→Option R),query_joined.g [] b K=K b:=fun b K=>by
  unfold query_joined.g;rw[bifd,if_pos (by decide)]
 have hns:¬ isS (wOf t.f0) [125]:=not_sig (by rcases kind_of hT hW t.f0 hp with h|h<;>omega) _;rw[query_reader_group.l4,bifn,cond_false,show(⟨#[125]⟩:ByteArray)=ofL [125]from rfl,signq hT hW hd0,if_neg hns,bifn,cond_false,hr,bifd,bifd];rcases kind_of hT hW t.f0 hp with h|h
 ·rw[if_pos h,htr,hjo]
 rw[if_neg (by omega),if_pos h,htr,hjo]
theorem gr_start {ws:List TokS} {c:List OpS} {F:List (List PartS)} {D:Nat} (hc:c≠ []∨(c= []∧True))
 (h: ∀ (d i:Nat) (rest:List TokS),WS.drop i=wSig [123]::ws++rest→D≤d→ ∃ rows frows,RowsR rOp rows c∧RowsR rFm frows F∧ ∀ k0,query_reader_group.l4 n (recR n d).h22 n [] [] l ((i+1:Nat):Int) false k0=k0 rows frows l ((i+(ws.length+1):Nat):Int) false):
 Gr n l WS (wSig [123]::ws) (if c= []then [opK 1]else c) F (D+1):=by
 intro d i rest hd hD;obtain⟨e,rfl⟩: ∃ e,d=e+1:=⟨d - 1,by omega⟩;obtain⟨rows,frows,h1,h2,h3⟩:=h e i rest hd (by omega);have hd':WS.drop i=wSig [123]::(ws++rest):=hd;by_cases hcn:c= []
 ·subst hcn;refine⟨[[I 1,NIL,NIL,NIL,NIL,S ⟨#[]⟩,B false]],frows,by rw[if_pos rfl];exact opK_row 1,h2,fun K=>?_⟩;(show query_reader_group.g n (recR n e).h22 l (i:Int) false K=_);unfold query_reader_group.g;rw[show(⟨#[123]⟩:ByteArray)=ofL [123]from rfl,signq hT hW hd',if_pos ((sig_is _ _).2 rfl),mustq,h3];unfold query_some.g;rw[bifd,if_pos (by rw[rows_len h1];rfl)];rfl
 refine⟨rows,frows,by rw[if_neg hcn];exact h1,h2,fun K=>?_⟩;(show query_reader_group.g n (recR n e).h22 l (i:Int) false K=_);unfold query_reader_group.g;rw[show(⟨#[123]⟩:ByteArray)=ofL [123]from rfl,signq hT hW hd',if_pos ((sig_is _ _).2 rfl),mustq,h3,someq h1 hcn];rfl
/-- what stands in a group's brackets -/
def In (n : Nat) (l : RW) (WS ws : List TokS) (c : List OpS) (F : List (List PartS)) (D : Nat) : Prop :=
  ∀ (d i m : Nat) (rest : List TokS), WS.drop i = ws ++ rest → D ≤ d → 10 ≤ m → ∃ rows frows, RowsR rOp rows c ∧ RowsR rFm frows F ∧ ∀ k0, query_reader_group.l4 n (recR n d).h22 m [] [] l (i : Int) false k0 = k0 rows frows l ((i + ws.length : Nat) : Int) false
theorem gr_in {ws:List TokS} {c:List OpS} {F:List (List PartS)} {D:Nat} (h:In n l WS ws c F D):Gr n l WS (wSig [123]::ws) (if c= []then [opK 1]else c) F (D+1):=
 gr_start hf hn hT hW (by by_cases hc:c= [];exact .inr ⟨hc,trivial⟩;exact .inl hc) fun d i rest hd hD=>by
  obtain⟨rows,frows,h1,h2,h3⟩:=h d (i+1) n rest (by rw[← List.drop_drop,hd];rfl) hD (by omega);exact⟨rows,frows,h1,h2,fun k0=>by rw[h3,show i+1+ws.length=i+(ws.length+1)by omega]⟩
/-- a sub-group's words: they begin with a bracket; what they read as -/
structure Sub (n : Nat) (l : RW) (WS : List TokS) (a : List TokS × List OpS) : Prop where
  q : ∃ q, a.1 = wSig [123] :: q
  w : Wh n l WS a.1 a.2 (2 * a.1.length)
  ne : a.2 ≠ []
theorem in_bas {ts:List TriS} (hts: ∀ t ∈ ts,patOK t=true∧t.lt n) (hl:ts.length≤100):In n l WS (ts.flatMap triW++ [wSig [125]]) (if ts= []then []else [⟨1,ts,⟨[],[]⟩,[],⟨#[]⟩,false⟩]) [] 0:=by
 intro d i m rest hd _ hm;obtain⟨m',rfl⟩: ∃ m',m=m'+2:=⟨m - 2,by omega⟩;have hd':WS.drop i=ts.flatMap triW++wSig [125]::rest:=(by rw[hd];simp);have hd2:WS.drop (i+(ts.flatMap triW).length)=wSig [125]::rest:=drop_more hd';by_cases hne:ts= []
 ·subst hne;refine⟨[],[],by rw[if_pos rfl];trivial,trivial,fun k0=>?_⟩;exact gr_end hf hn hT hW _ (m'+1) [] [] hd2 k0
 refine⟨[[I 1,.sl false 12 (ts.map eTri),.sl false 1 [],.sl false 1 [],.sl false 7 [],S ⟨#[]⟩,B false]],[],by
  rw[if_neg hne];exact⟨⟨_,_,_,_,rfl,.inr ⟨_,rfl,rows_tri _⟩,.inr ⟨_,rfl,trivial⟩,.inr ⟨_,rfl,trivial⟩,.inr ⟨_,rfl,trivial⟩⟩,trivial⟩,trivial,fun k0=>?_⟩
 rw[gr_tris hf hn hT hW _ (m'+1) hne hts hl hd',gr_end hf hn hT hW _ m' _ [] hd2];rw[show i+(ts.flatMap triW++ [wSig [125]]).length=i+(ts.flatMap triW).length+1 by simp;omega]
theorem sig_el (x:List UInt8) (h:x≠ [125]):(wSig x).k≠2∧(wSig x).k≠3∧¬ isS (wSig x) [125]∧¬ isW (wSig x) [70,73,76,84,69,82]:=⟨show(5:Int) ≠2 by decide,show(5:Int) ≠3 by decide,fun e=>h ((sig_is _ _).1 e),not_key (show(5:Int) ≠1 by decide) _⟩
theorem key_el (x:List UInt8) (h:x≠ [70,73,76,84,69,82]):(wKey x).k≠2∧(wKey x).k≠3∧¬ isS (wKey x) [125]∧¬ isW (wKey x) [70,73,76,84,69,82]:=⟨show(1:Int) ≠2 by decide,show(1:Int) ≠3 by decide,not_sig (show(1:Int) ≠5 by decide) _,fun e=>h ((key_is _ _).1 e)⟩
/-- the first sub-group of a group -/
theorem first_sub {a:List TokS × List OpS} (ha:Sub n l WS a) (hl:a.2.length≤400) {d:Nat} (hD:2*a.1.length≤d) {i:Nat} {v:TokS} {r:List TokS} (hd:WS.drop i=a.1++v::r) (hv:¬ isW v [85,78,73,79,78]) (m:Nat) (F:RW):
 ∃ E_,RowsR rOp E_ a.2∧ ∀ k0,query_reader_group.l4 n (recR n d).h22 (m+1) [] F l (i:Int) false k0=query_reader_group.l4 n (recR n d).h22 m E_ F l ((i+a.1.length:Nat):Int) false k0:=by
 obtain⟨q,hq⟩:=ha.q;have hw:=ha.w;rw[hq]at hw hd hD ⊢;obtain⟨E_,h1,h2⟩:=el_whole hf hn hT hW d (show RowsR rOp [] []from trivial) (hw) hD (by simp;omega) hd hv;obtain⟨e1,e2,e3,e4⟩:=sig_el hf hn hT hW [123] (by decide);refine⟨E_,by simpa [joinO]using h1,fun k0=>?_⟩;exact gr_elem hf hn hT hW _ m [] E_ F hd e1 e2 e3 e4 h2 k0
theorem in_filter {a:List TokS × List OpS} (ha:Sub n l WS a) (hl:a.2.length≤400) {x:List PartS} (hx:fcheck x=0) (hxl: ∀ p ∈ x,p.lt n):
 In n l WS (a.1++wKey [70,73,76,84,69,82]::wSig [40]::(fW x++ [wSig [41],wSig [125]])) a.2 [x] (2*a.1.length):=by
 intro d i m rest hd hD hm;obtain⟨m',rfl⟩: ∃ m',m=m'+3:=⟨m - 3,by omega⟩;have hd0:WS.drop i=a.1++wKey [70,73,76,84,69,82]::(wSig [40]::(fW x++wSig [41]::wSig [125]::rest)):=(by rw[hd];simp);have hd1:WS.drop (i+a.1.length)=wKey [70,73,76,84,69,82]::wSig [40]::(fW x++wSig [41]::wSig [125]::rest):=drop_more hd0;have hd2:WS.drop (i+a.1.length+((fW x).length+3))=wSig [125]::rest:=by
  have:=drop_more (show WS.drop (i+a.1.length)=(wKey [70,73,76,84,69,82]::wSig [40]::(fW x++ [wSig [41]]))++wSig [125]::rest by rw[hd1];simp);rwa[show(wKey [70,73,76,84,69,82]::wSig [40]::(fW x++ [wSig [41]])).length=(fW x).length+3 by simp]at this
 obtain⟨E_,h1,h2⟩:=first_sub hf hn hT hW ha hl hD hd0 (fun e=>by have:=(key_is _ _).1 e;revert this;decide) (m'+2) [];refine⟨E_,[[.sl false 7 (x.map ePart)]],h1,⟨rfl,trivial⟩,fun k0=>?_⟩;rw[h2,gr_filter hf hn hT hW _ (m'+1) E_ hx hxl hd1,gr_end hf hn hT hW _ m' E_ _ hd2];rw[show i+(a.1++wKey [70,73,76,84,69,82]::wSig [40]::(fW x++ [wSig [41],wSig [125]])).length=i+a.1.length+((fW x).length+3)+1 by simp;omega]
theorem in_bare {a:List TokS × List OpS} (ha:Sub n l WS a) (hl:a.2.length≤400):In n l WS (a.1++ [wSig [125]]) a.2 [] (2*a.1.length):=by
 intro d i m rest hd hD hm;obtain⟨m',rfl⟩: ∃ m',m=m'+2:=⟨m - 2,by omega⟩;have hd0:WS.drop i=a.1++wSig [125]::rest:=(by rw[hd];simp);have hd1:WS.drop (i+a.1.length)=wSig [125]::rest:=drop_more hd0;obtain⟨E_,h1,h2⟩:=first_sub hf hn hT hW ha hl hD hd0 (not_key (show(5:Int) ≠1 by decide) _) (m'+1) [];refine⟨E_,[],h1,trivial,fun k0=>?_⟩;rw[h2,gr_end hf hn hT hW _ m' E_ _ hd1];rw[show i+(a.1++ [wSig [125]]).length=i+a.1.length+1 by simp;omega]
/-- a group whose first sub-group is followed by one more element -/
theorem in_two {a:List TokS × List OpS} (ha:Sub n l WS a) (hl:a.2.length≤400) {w:TokS} {q:List TokS} {c:List OpS} {D:Nat} (hD1:2*a.1.length≤D) (hw:w.k≠2∧w.k≠3∧¬ isS w [125]∧¬ isW w [70,73,76,84,69,82]) (hu:¬ isW w [85,78,73,79,78])
 (hel: ∀ (d i:Nat) (A:RW) (rest:List TokS),D≤d→RowsR rOp A a.2→WS.drop i=w::q++wSig [125]::rest→ ∃ E_,RowsR rOp E_ c∧ ∀ K,query_reader_element.g n (recR n d).h22 A l (i:Int) false K=K E_ l ((i+(q.length+1):Nat):Int) false):
 In n l WS (a.1++w::(q++ [wSig [125]])) c [] D:=by
 intro d i m rest hd hD hm;obtain⟨m',rfl⟩: ∃ m',m=m'+3:=⟨m - 3,by omega⟩;have hd0:WS.drop i=a.1++w::(q++wSig [125]::rest):=(by rw[hd];simp);have hd1:WS.drop (i+a.1.length)=w::q++wSig [125]::rest:=drop_more hd0;have hd2:WS.drop (i+a.1.length+(q.length+1))=wSig [125]::rest:=(by have:=drop_more hd1;rwa[List.length_cons]at this);obtain⟨A,h1,h2⟩:=first_sub hf hn hT hW ha hl (show 2*a.1.length≤d by omega) hd0 hu (m'+2) [];obtain⟨E_,h3,h4⟩:=hel d (i+a.1.length) A rest hD h1 hd1;refine⟨E_,[],h3,trivial,fun k0=>?_⟩;rw[h2,gr_elem hf hn hT hW _ (m'+1) A E_ [] hd1 hw.1 hw.2.1 hw.2.2.1 hw.2.2.2 h4,gr_end hf hn hT hW _ m' E_ _ hd2];rw[show i+(a.1++w::(q++ [wSig [125]])).length=i+a.1.length+(q.length+1)+1 by simp;omega]
/-- a group with one element -/
theorem in_one {w:TokS} {q:List TokS} {c:List OpS} {D:Nat} (hw:w.k≠2∧w.k≠3∧¬ isS w [125]∧¬ isW w [70,73,76,84,69,82])
 (hel: ∀ (d i:Nat) (rest:List TokS),D≤d→WS.drop i=w::q++wSig [125]::rest→ ∃ E_,RowsR rOp E_ c∧ ∀ K,query_reader_element.g n (recR n d).h22 [] l (i:Int) false K=K E_ l ((i+(q.length+1):Nat):Int) false):
 In n l WS (w::(q++ [wSig [125]])) c [] D:=by
 intro d i m rest hd hD hm;obtain⟨m',rfl⟩: ∃ m',m=m'+2:=⟨m - 2,by omega⟩;have hd1:WS.drop i=w::q++wSig [125]::rest:=(by rw[hd];simp);have hd2:WS.drop (i+(q.length+1))=wSig [125]::rest:=(by have:=drop_more hd1;rwa[List.length_cons]at this);obtain⟨E_,h3,h4⟩:=hel d i rest hD hd1;refine⟨E_,[],h3,trivial,fun k0=>?_⟩;rw[gr_elem hf hn hT hW _ (m'+1) [] E_ [] hd1 hw.1 hw.2.1 hw.2.2.1 hw.2.2.2 h4,gr_end hf hn hT hW _ m' E_ _ hd2];rw[show i+(w::(q++ [wSig [125]])).length=i+(q.length+1)+1 by simp;omega]
end
end Go.Proofs.YtcfoebkbahpnaaaGreat.Ab
