/- What the reader of groups comes to: elements. -/
import Derived.Test.YtcfoebkbahpnaaaGreatZLu
set_option linter.unusedSectionVars false
set_option linter.unusedVariables false
set_option linter.unusedSimpArgs false
namespace Go.Proofs.YtcfoebkbahpnaaaGreat.Ab
open Go Go.Proofs.YtcfoebkbahpnaaaGreat

theorem rows_len {α:Type} {r:List DV→α→Prop}: ∀ {rows:RW} {l:List α},RowsR r rows l→rows.length=l.length
 | [],[],_=>rfl
 |_::_,_::_,h=>by simp[rows_len h.2]
 | [],_::_,h=>h.elim
 |_::_,[],h=>h.elim
theorem rows_app {α:Type} {r:List DV→α→Prop}: ∀ {a b:RW} {x y:List α},RowsR r a x→RowsR r b y→RowsR r (a++b) (x++y)
 | [],b,[],y,_,k=>k
 |_::_,b,_::_,y,h,k=>⟨h.1,rows_app h.2 k⟩
 | [],_,_::_,_,h,_=>h.elim
 |_::_,_,[],_,h,_=>h.elim
theorem slR_dis {α:Type} {n:Nat} {r:List DV→α→Prop} {c:DV} {l:List α} (h:slR n r c l):slR n r c.dis1 l:=by
 rcases h with ⟨rfl,rfl⟩|⟨rows,rfl,h⟩
 ·exact .inl ⟨rfl,rfl⟩
 exact .inr ⟨rows,rfl,h⟩
theorem rOp_dis {a:List DV} {o:OpS} (h:rOp a o):rOp (a.map DV.dis1) o:=by
 obtain⟨a,b,c,d,rfl,h1,h2,h3,h4⟩:=h;exact⟨_,_,_,_,rfl,slR_dis h1,slR_dis h2,slR_dis h3,slR_dis h4⟩
theorem rows_dis: ∀ {a:RW} {x:List OpS},RowsR rOp a x→RowsR rOp (a.map (·.map DV.dis1)) x
 | [],[],_=>trivial
 |_::_,_::_,h=>⟨rOp_dis h.1,rows_dis h.2⟩
 | [],_::_,h=>h.elim
 |_::_,[],h=>h.elim
theorem appO {a b:RW} {x y:List OpS} (h:RowsR rOp a x) (k:RowsR rOp b y) (hl:x.length+y.length≤1000): ∃ c,RowsR rOp c (x++y)∧ ∀ K:RW→Option R,appC 128 a b K=K c:=
 ⟨_,rows_app h (rows_dis k),fun K=>appC_ok (by rw[rows_len h,rows_len k];omega) (by rw[rows_len h,rows_len k];omega)⟩
/-- an operation that needs nothing but its kind -/
def opK (k : Int) : OpS := ⟨k, [], ⟨[], []⟩, [], ⟨#[]⟩, false⟩
theorem opK_row (k:Int):RowsR rOp [[I k,NIL,NIL,NIL,NIL,S ⟨#[]⟩,B false]] [opK k]:=⟨⟨NIL,NIL,NIL,NIL,rfl,.inl ⟨rfl,rfl⟩,.inl ⟨rfl,rfl⟩,.inl ⟨rfl,rfl⟩,.inl ⟨rfl,rfl⟩⟩,trivial⟩
def filterO (x : List PartS) : OpS := ⟨7, [], ⟨[], []⟩, x, ⟨#[]⟩, false⟩
def rFm (row : List DV) (x : List PartS) : Prop := row = [.sl false 7 (x.map ePart)]
theorem someq {a:RW} {x:List OpS} (h:RowsR rOp a x) (hx:x≠ []) (K:RW→Option R):query_some.g a K=K a:=by
 unfold query_some.g;have:=rows_len h;have:=List.length_pos_iff.2 hx;rw[bifd,if_neg (by omega)]
def joinO (a b : List OpS) : List OpS := if a = [] then b else a ++ b ++ [opK 3]
theorem joinedq {a b:RW} {x y:List OpS} (h:RowsR rOp a x) (k:RowsR rOp b y) (hl:x.length+y.length≤900): ∃ c,RowsR rOp c (joinO x y)∧ ∀ K:RW→Option R,query_joined.g a b K=K c:=by
 have hlen:=rows_len h;by_cases hx:x= []
 ·subst hx;refine⟨b,by rw[joinO,if_pos rfl];exact k,fun K=>?_⟩;unfold query_joined.g;rw[bifd,if_pos (by rw[hlen];rfl)]
 obtain⟨c,h1,h2⟩:=appO h k (by omega);obtain⟨d,h3,h4⟩:=appO h1 (opK_row 3) (by simp;omega);refine⟨d,by rw[joinO,if_neg hx];exact h3,fun K=>?_⟩;have:=List.length_pos_iff.2 hx;unfold query_joined.g;rw[bifd,if_neg (by omega),h2,h4]
/-- words that the reader of wholes reads -/
def Wh (n : Nat) (l : RW) (WS ws : List TokS) (ops : List OpS) (D : Nat) : Prop :=
  ∀ (d i : Nat) (rest : List TokS), WS.drop i = ws ++ rest → D ≤ d → ∃ rows, RowsR rOp rows ops ∧ ∀ K, query_reader_whole.g n (recR n d).h22 l (i : Int) false K = K rows l ((i + ws.length : Nat) : Int) false
/-- words that the reader of groups reads -/
def Gr (n : Nat) (l : RW) (WS ws : List TokS) (c : List OpS) (F : List (List PartS)) (D : Nat) : Prop :=
  ∀ (d i : Nat) (rest : List TokS), WS.drop i = ws ++ rest → D ≤ d → ∃ rows frows, RowsR rOp rows c ∧ RowsR rFm frows F ∧ ∀ K, (recR n d).h22 l (i : Int) false K = K rows frows l ((i + ws.length : Nat) : Int) false
section
variable {n : Nat} (hf : Fuel n) (hn : 40000 ≤ n) {l : RW} {WS : List TokS} (hT : Toks l WS) (hW : WS.length ≤ 4096)
include hf hn hT hW
theorem wh_of {ws:List TokS} {c:List OpS} {F:List (List PartS)} {D:Nat} (h:Gr n l WS ws c F D) (hF:F.length≤1) (hc:c.length≤900):Wh n l WS ws (c++F.map filterO) D:=by
 intro d i rest hd hD;obtain⟨rows,frows,h1,h2,h3⟩:=h d i rest hd hD;obtain⟨m,hm⟩: ∃ m,n=m+2:=⟨n - 2,by omega⟩;have hfl:=rows_len h2;match F,frows,h2,hF with
 | [],[],_,_=>
  refine⟨rows,by simpa using h1,fun K=>?_⟩;unfold query_reader_whole.g;rw[h3];have:query_reader_whole.l3 n (recR n d).h22 (m+2) rows [] (([]:RW).length:Int) 0 l ((i+ws.length:Nat):Int) false K=K rows l ((i+ws.length:Nat):Int) false:=by
   rw[query_reader_whole.l3];simp
  rw[← hm]at this;exact this
 | [x],[row],h2,_=>
  have hrow:row= [.sl false 7 (x.map ePart)]:=h2.1;subst hrow;obtain⟨e,h4,h5⟩:=appO h1 (show RowsR rOp [[I 7,NIL,NIL,NIL,.sl false 7 (x.map ePart),S ⟨#[]⟩,B false]] [filterO x]from⟨⟨_,_,_,_,rfl,.inl ⟨rfl,rfl⟩,.inl ⟨rfl,rfl⟩,.inl ⟨rfl,rfl⟩,.inr ⟨_,rfl,rows_part x⟩⟩,trivial⟩) (by simp;omega);refine⟨e,h4,fun K=>?_⟩;unfold query_reader_whole.g;rw[h3];have:query_reader_whole.l3 n (recR n d).h22 (m+2) rows [[.sl false 7 (x.map ePart)]] (([[DV.sl false 7 (x.map ePart)]]:RW).length:Int) 0 l ((i+ws.length:Nat):Int) false K=K e l ((i+ws.length:Nat):Int) false:=by
   rw[query_reader_whole.l3];simp only[bifd,bifd2,List.length_cons,List.length_nil];rw[if_pos (by decide),if_pos (by decide)];unfold rd_l7 rowC;simp only[show((0:Int)).toNat=0 from rfl,List.getElem?_cons_zero,hdC,slC];rw[h5,query_reader_whole.l3];simp only[bifd,List.length_cons,List.length_nil];rw[if_neg (by decide)];rfl
  rw[← hm]at this;exact this
variable (d:Nat)
/-! elements -/
theorem el_whole {A:RW} {x:List OpS} (hA:RowsR rOp A x) {q:List TokS} {ops:List OpS} {D:Nat} (h:Wh n l WS (wSig [123]::q) ops D) (hD:D≤d) (hl:x.length+ops.length≤800) {i:Nat} {v:TokS} {r:List TokS} (hd:WS.drop i=wSig [123]::q++v::r) (hv:¬ isW v [85,78,73,79,78]):
 ∃ B,RowsR rOp B (joinO x ops)∧ ∀ K,query_reader_element.g n (recR n d).h22 A l (i:Int) false K=K B l ((i+(q.length+1):Nat):Int) false:=by
 obtain⟨rows,h1,h2⟩:=h d i (v::r) hd hD;obtain⟨B,h3,h4⟩:=joinedq hA h1 (by omega);obtain⟨m,hm⟩: ∃ m,n=m+1:=⟨n - 1,by omega⟩;have hd':WS.drop i=wSig [123]::(q++v::r):=hd;have hd2:WS.drop (i+(wSig [123]::q).length)=v::r:=drop_more hd;(have nk: ∀ s,¬ isW (wSig [123]) s:=fun s=>not_key (show(5:Int) ≠1 by decide) s);refine⟨B,h3,fun K=>?_⟩;have hloop: ∀ k3,query_reader_element.l33 n (recR n d).h22 (m+1) A rows l ((i+(wSig [123]::q).length:Nat):Int) false k3=k3 A rows l ((i+(wSig [123]::q).length:Nat):Int) false:=fun k3=>by
  rw[query_reader_element.l33,show(⟨#[85,78,73,79,78]⟩:ByteArray)=ofL [85,78,73,79,78]from rfl,keyq hT hW hd2,if_neg hv,cond_false]
 rw[← hm]at hloop;unfold query_reader_element.g;simp only[lit];rw[keyq hT hW hd',if_neg (nk _),cond_false,keyq hT hW hd',if_neg (nk _),cond_false,keyq hT hW hd',if_neg (nk _),cond_false,keyq hT hW hd',if_neg (nk _),cond_false,keyq hT hW hd',if_neg (nk _),cond_false,h2,hloop,h4];rfl
theorem el_union {q1 ws2:List TokS} {o1 o2:List OpS} {D:Nat} (h:Wh n l WS (wSig [123]::q1) o1 D) (k:Wh n l WS ws2 o2 D) (hD:D≤d) (hl:o1.length+o2.length≤800) {i:Nat} {v:TokS} {r:List TokS} (hd:WS.drop i=wSig [123]::q1++wKey [85,78,73,79,78]::(ws2++v::r)) (hv:¬ isW v [85,78,73,79,78]):
 ∃ B,RowsR rOp B (o1++o2++ [opK 4])∧ ∀ K,query_reader_element.g n (recR n d).h22 [] l (i:Int) false K=K B l ((i+(q1.length+1)+(ws2.length+1):Nat):Int) false:=by
 obtain⟨rows,h1,h2⟩:=h d i _ hd hD;have hd':WS.drop i=wSig [123]::(q1++wKey [85,78,73,79,78]::(ws2++v::r)):=hd;have hd2:WS.drop (i+(wSig [123]::q1).length)=wKey [85,78,73,79,78]::(ws2++v::r):=drop_more hd;have hd3:WS.drop (i+(wSig [123]::q1).length+1)=ws2++v::r:=(by rw[← List.drop_drop,hd2];rfl);have hd4:WS.drop (i+(wSig [123]::q1).length+1+ws2.length)=v::r:=drop_more hd3;obtain⟨rows2,k1,k2⟩:=k d (i+(wSig [123]::q1).length+1) _ hd3 hD;obtain⟨a,a1,a2⟩:=appO h1 k1 (by omega);obtain⟨b,b1,b2⟩:=appO a1 (opK_row 4) (by simp;omega);obtain⟨m,hm⟩: ∃ m,n=m+2:=⟨n - 2,by omega⟩;(have nk: ∀ s,¬ isW (wSig [123]) s:=fun s=>not_key (show(5:Int) ≠1 by decide) s);refine⟨b,b1,fun K=>?_⟩;have hloop: ∀ k3,query_reader_element.l33 n (recR n d).h22 (m+2) [] rows l ((i+(wSig [123]::q1).length:Nat):Int) false k3=k3 [] b l ((i+(wSig [123]::q1).length+1+ws2.length:Nat):Int) false:=fun k3=>by
  rw[query_reader_element.l33,show(⟨#[85,78,73,79,78]⟩:ByteArray)=ofL [85,78,73,79,78]from rfl,keyq hT hW hd2,if_pos ((key_is _ _).2 rfl),cond_true,k2,a2,b2,query_reader_element.l33,show(⟨#[85,78,73,79,78]⟩:ByteArray)=ofL [85,78,73,79,78]from rfl,keyq hT hW hd4,if_neg hv,cond_false]
 rw[← hm]at hloop;unfold query_reader_element.g;simp only[lit];rw[keyq hT hW hd',if_neg (nk _),cond_false,keyq hT hW hd',if_neg (nk _),cond_false,keyq hT hW hd',if_neg (nk _),cond_false,keyq hT hW hd',if_neg (nk _),cond_false,keyq hT hW hd',if_neg (nk _),cond_false,h2,hloop];unfold query_joined.g;rw[bifd,if_pos (by decide)];rw[show i+(wSig [123]::q1).length+1+ws2.length=i+(q1.length+1)+(ws2.length+1)by simp;omega]
theorem el_minus {A:RW} {x:List OpS} (hA:RowsR rOp A x) (hx:x≠ []) {ws:List TokS} {ops:List OpS} {D:Nat} (h:Wh n l WS ws ops D) (hD:D≤d) (hl:x.length+ops.length≤800) {i:Nat} {rest:List TokS} (hd:WS.drop i=wKey [77,73,78,85,83]::(ws++rest)):
 ∃ B,RowsR rOp B (x++ops++ [opK 6])∧ ∀ K,query_reader_element.g n (recR n d).h22 A l (i:Int) false K=K B l ((i+(ws.length+1):Nat):Int) false:=by
 have hd1:WS.drop (i+1)=ws++rest:=(by rw[← List.drop_drop,hd];rfl);obtain⟨rows,h1,h2⟩:=h d (i+1) rest hd1 hD;obtain⟨a,a1,a2⟩:=appO hA h1 (by omega);obtain⟨b,b1,b2⟩:=appO a1 (opK_row 6) (by simp;omega);refine⟨b,b1,fun K=>?_⟩;unfold query_reader_element.g;simp only[lit];rw[keyq hT hW hd,if_neg (fun h=>by have:=(key_is _ _).1 h;revert this;decide),cond_false,keyq hT hW hd,if_pos ((key_is _ _).2 rfl),cond_true,h2,someq hA hx,a2];rw[show i+1+ws.length=i+(ws.length+1)by omega];exact b2 _
def leftO (x : List PartS) : OpS := ⟨5, [], ⟨[], []⟩, x, ⟨#[]⟩, false⟩
theorem el_opt {A:RW} {x:List OpS} (hA:RowsR rOp A x) (hx:x≠ []) {ws:List TokS} {c:List OpS} {F:List (List PartS)} {D:Nat} (h:Gr n l WS ws c F D) (hF:F.length≤1) (hFl: ∀ f ∈ F,f.length≤256) (hD:D≤d) (hl:x.length+c.length≤800) {i:Nat} {rest:List TokS} (hd:WS.drop i=wKey [79,80,84,73,79,78,65,76]::(ws++rest)):
 ∃ B,RowsR rOp B (x++c++ [leftO (F.flatMap id)])∧ ∀ K,query_reader_element.g n (recR n d).h22 A l (i:Int) false K=K B l ((i+(ws.length+1):Nat):Int) false:=by
 have hd1:WS.drop (i+1)=ws++rest:=(by rw[← List.drop_drop,hd];rfl);obtain⟨rows,frows,h1,h2,h3⟩:=h d (i+1) rest hd1 hD;obtain⟨a,a1,a2⟩:=appO hA h1 (by omega);have hrow:RowsR rOp [[I 5,.sl false 12 [],.sl false 1 [],.sl false 1 [],.sl false 7 ((F.flatMap id).map ePart),S ⟨#[]⟩,B false]] [leftO (F.flatMap id)]:=⟨⟨_,_,_,_,rfl,.inr ⟨_,rfl,trivial⟩,.inr ⟨_,rfl,trivial⟩,.inr ⟨_,rfl,trivial⟩,.inr ⟨_,rfl,rows_part _⟩⟩,trivial⟩;obtain⟨b,b1,b2⟩:=appO a1 hrow (by simp;omega);obtain⟨m,hm⟩: ∃ m,n=m+2:=⟨n - 2,by omega⟩;refine⟨b,b1,fun K=>?_⟩;have hloop: ∀ k1,query_reader_element.l5 n (recR n d).h22 (m+2) A rows frows (frows.length:Int) 0 l ((i+1+ws.length:Nat):Int) false 5 [] [] [] [] ⟨#[]⟩ false k1=k1 A rows l ((i+1+ws.length:Nat):Int) false 5 [] [] [] ((F.flatMap id).map ePart) ⟨#[]⟩ false:=fun k1=>by
  match F,frows,h2,hF,hFl with
  | [],[],_,_,_=>rw[query_reader_element.l5];simp
  | [f],[row],h2,_,hFl=>
   have hrow:row= [.sl false 7 (f.map ePart)]:=h2.1;subst hrow;have hfl:=hFl f (List.mem_cons_self ..);rw[query_reader_element.l5];simp only[bifd,bifd2,List.length_cons,List.length_nil];rw[if_pos (by decide),if_pos (by decide)];unfold rd_l7 rowC;simp only[show((0:Int)).toNat=0 from rfl,List.getElem?_cons_zero,hdC,slC];rw[appC_ok (by simp;omega) (by simp;omega),if_neg (by decide),query_reader_element.l5];simp only[bifd,List.length_cons,List.length_nil];rw[if_neg (by decide)];(show k1 _ _ _ _ _ _ _ _ _ _ _ _=k1 _ _ _ _ _ _ _ _ _ _ _ _);congr 1;simp[ePart,DV.dis1]
 rw[← hm]at hloop;unfold query_reader_element.g;rw[show(⟨#[79,80,84,73,79,78,65,76]⟩:ByteArray)=ofL [79,80,84,73,79,78,65,76]from rfl,keyq hT hW hd,if_pos ((key_is _ _).2 rfl),cond_true,h3,hloop,someq hA hx,a2];rw[show i+1+ws.length=i+(ws.length+1)by omega];exact b2 _
def extO (x : List PartS) (s : ByteArray) : OpS := ⟨8, [], ⟨[], []⟩, x, s, false⟩
theorem el_bind {A:RW} {x:List OpS} (hA:RowsR rOp A x) (hx:x≠ []) (hl:x.length≤800) {f:List PartS} (hf0:fcheck f=0) (hfl: ∀ p ∈ f,p.lt n) {s:ByteArray} {i:Nat} {rest:List TokS} (hd:WS.drop i=wKey [66,73,78,68]::wSig [40]::(fW f++wKey [65,83]::wVar s::wSig [41]::rest)):
 ∃ B,RowsR rOp B (x++ [extO f s])∧ ∀ K,query_reader_element.g n (recR n d).h22 A l (i:Int) false K=K B l ((i+((fW f).length+5):Nat):Int) false:=by
 have hd1:WS.drop (i+1)=wSig [40]::(fW f++wKey [65,83]::wVar s::wSig [41]::rest):=(by rw[← List.drop_drop,hd];rfl);have hd2:WS.drop (i+1+1)=fW f++wKey [65,83]::wVar s::wSig [41]::rest:=(by rw[← List.drop_drop,hd1];rfl);have hd3:WS.drop (i+1+1+(fW f).length)=wKey [65,83]::wVar s::wSig [41]::rest:=drop_more hd2;have hd4:WS.drop (i+1+1+(fW f).length+1)=wVar s::wSig [41]::rest:=(by rw[← List.drop_drop,hd3];rfl);have hd5:WS.drop (i+1+1+(fW f).length+1+1)=wSig [41]::rest:=(by rw[← List.drop_drop,hd4];rfl);have hrow:RowsR rOp [[I 8,.sl false 12 [],.sl false 1 [],.sl false 1 [],.sl false 7 (f.map ePart),S s,B false]] [extO f s]:=⟨⟨_,_,_,_,rfl,.inr ⟨_,rfl,trivial⟩,.inr ⟨_,rfl,trivial⟩,.inr ⟨_,rfl,trivial⟩,.inr ⟨_,rfl,rows_part _⟩⟩,trivial⟩;obtain⟨b,b1,b2⟩:=appO hA hrow (by simp;omega);refine⟨b,b1,fun K=>?_⟩;unfold query_reader_element.g;simp only[lit];rw[keyq hT hW hd,if_neg (fun h=>by have:=(key_is _ _).1 h;revert this;decide),cond_false,keyq hT hW hd,if_neg (fun h=>by have:=(key_is _ _).1 h;revert this;decide),cond_false,keyq hT hW hd,if_pos ((key_is _ _).2 rfl),cond_true,
  signq hT hW hd1,if_pos ((sig_is _ _).2 rfl),mustq,formq hT hW (by omega) hf0 hf hfl hn hd2 (fun j _ _ k _ e=>by have:(1:Int)=5:=e.1;revert this;decide),keyq hT hW hd3,if_pos ((key_is _ _).2 rfl),mustq,varq hT hW hd4,signq hT hW hd5,if_pos ((sig_is _ _).2 rfl),mustq,someq hA hx]
 rw[show i+1+1+(fW f).length+1+1+1=i+((fW f).length+5)by omega];exact b2 _
def tabO (vars : List ByteArray) (rows : List (List TermS)) : OpS := ⟨2, [], ⟨vars, rows⟩, [], ⟨#[]⟩, false⟩
theorem el_values {vars:List ByteArray} {rows:List (List TermS)} (hv:vars.length≤100) (hr:rows.length≤100) (hc: ∀ row ∈ rows,row.length≤100∧ ∀ t ∈ row,cellV t=true) {i:Nat} {r0:List TokS}
 (hd:WS.drop i=wKey [86,65,76,85,69,83]::wSig [40]::(vars.map wVar++wSig [41]::wSig [123]::(rows.flatMap rowW++wSig [125]::r0))):
 ∃ B,RowsR rOp B [tabO vars rows]∧ ∀ K,query_reader_element.g n (recR n d).h22 [] l (i:Int) false K=K B l ((i+(vars.length+(rows.flatMap rowW).length+5):Nat):Int) false:=by
 have hd1:WS.drop (i+1)=wSig [40]::(vars.map wVar++wSig [41]::wSig [123]::(rows.flatMap rowW++wSig [125]::r0)):=(by rw[← List.drop_drop,hd];rfl);refine⟨[[I 2,.sl false 12 [],.sl false 1 (srow vars),.sl false 1 (rows.map eRow),.sl false 7 [],S ⟨#[]⟩,B false]],⟨⟨_,_,_,_,rfl,.inr ⟨_,rfl,trivial⟩,.inr ⟨_,rfl,rows_str _⟩,.inr ⟨_,rfl,rows_row _⟩,.inr ⟨_,rfl,trivial⟩⟩,trivial⟩,fun K=>?_⟩;unfold query_reader_element.g;simp only[lit];rw[keyq hT hW hd,if_neg (fun h=>by have:=(key_is _ _).1 h;revert this;decide),cond_false,keyq hT hW hd,if_neg (fun h=>by have:=(key_is _ _).1 h;revert this;decide),cond_false,keyq hT hW hd,if_neg (fun h=>by have:=(key_is _ _).1 h;revert this;decide),cond_false,keyq hT hW hd,if_pos ((key_is _ _).2 rfl),cond_true,
  tableq hf hT hW (by omega) hv hr hc hd1]
 unfold query_joined.g;rw[bifd,if_pos (by decide),show i+1+(vars.length+(rows.flatMap rowW).length+4)=i+(vars.length+(rows.flatMap rowW).length+5)by omega];rfl
def servO (s : ByteArray) (p : Bool) : OpS := ⟨9, [], ⟨[], []⟩, [], s, p⟩
theorem el_service {ws:List TokS} {ops:List OpS} {D:Nat} (h:Wh n l WS ws ops D) (hD:D≤d) (hl:ops.length≤800) {s:ByteArray} {p:Bool} {i:Nat} {rest:List TokS}
 (hd:WS.drop i=wKey [83,69,82,86,73,67,69]::((if p=true then [wKey [83,73,76,69,78,84]]else [])++wTm ⟨1,s,⟨#[]⟩,⟨#[]⟩⟩::(ws++rest))):
 ∃ E_,RowsR rOp E_ (ops++ [servO s p])∧ ∀ K,query_reader_element.g n (recR n d).h22 [] l (i:Int) false K=K E_ l ((i+(ws.length+2+(if p=true then 1 else 0)):Nat):Int) false:=by
 have hrow:RowsR rOp [[I 9,.sl false 12 [],.sl false 1 [],.sl false 1 [],.sl false 7 [],S s,B p]] [servO s p]:=⟨⟨_,_,_,_,rfl,.inr ⟨_,rfl,trivial⟩,.inr ⟨_,rfl,trivial⟩,.inr ⟨_,rfl,trivial⟩,.inr ⟨_,rfl,trivial⟩⟩,trivial⟩;have hd1:WS.drop (i+1)=(if p=true then [wKey [83,73,76,69,78,84]]else [])++wTm ⟨1,s,⟨#[]⟩,⟨#[]⟩⟩::(ws++rest):=(by rw[← List.drop_drop,hd];rfl);have main: ∀ j:Nat,WS.drop j=wTm ⟨1,s,⟨#[]⟩,⟨#[]⟩⟩::(ws++rest)→ ∃ E_,RowsR rOp E_ (ops++ [servO s p])∧ ∀ K:RW→RW→Int→Bool→Option R,(query_words_next.g l (j:Int) false fun i26 s5 i27 s6 s7 s8 i28 l55 i29 p33=>bif decide (i26=(3:Int))then(query_words_must.g (decide (i27=(1:Int))) l55 i29 p33 fun l56 i30 p34=>query_reader_whole.g n (recR n d).h22 l56 (wr (i30+(1:Int))) p34 fun l57 l58 i31 p35=>appC 128 l57 [[I 9,.sl false 12 [],.sl false 1 [],.sl false 1 [],.sl false 7 [],S s6,B p]] fun l59=>query_joined.g [] l59 fun l60=>K l60 l58 i31 p35)else(query_words_must.g false l55 i29 p33 fun l61 i32 p36=>query_reader_whole.g n (recR n d).h22 l61 (wr (i32+(1:Int))) p36 fun l62 l63 i33 p37=>appC 128 l62 [[I 9,.sl false 12 [],.sl false 1 [],.sl false 1 [],.sl false 7 [],S s6,B p]] fun l64=>query_joined.g [] l64 fun l65=>K l65 l63 i33 p37))=K E_ l ((j+1+ws.length:Nat):Int) false:=fun j hj=>by
  have hj1:WS.drop (j+1)=ws++rest:=(by rw[← List.drop_drop,hj];rfl);obtain⟨rows,h1,h2⟩:=h d (j+1) rest hj1 hD;obtain⟨b,b1,b2⟩:=appO h1 hrow (by simp;omega);obtain⟨a,hr⟩:=nextq hT hW hj false;have hi:=(toks_rd hT hj).1;have:=hT.1;refine⟨b,b1,fun K=>?_⟩;rw[hr,bifd,if_pos (show(wTm ⟨1,s,⟨#[]⟩,⟨#[]⟩⟩).k=3 from rfl),show decide ((wTm ⟨1,s,⟨#[]⟩,⟨#[]⟩⟩).t.f0=1)=true from rfl,mustq,wr_succ (by omega),h2];rw[show(wTm ⟨1,s,⟨#[]⟩,⟨#[]⟩⟩).t.f1=s from rfl,b2];unfold query_joined.g;rw[bifd,if_pos (by decide)]
 have hkeys: ∀ K:RW→RW→Int→Bool→Option R,query_reader_element.g n (recR n d).h22 [] l (i:Int) false K=query_words_key.g (ofL [83,73,76,69,78,84]) l ((i+1:Nat):Int) false fun p31 l54 i25 p32=>query_words_next.g l54 i25 p32 fun i26 s5 i27 s6 s7 s8 i28 l55 i29 p33=>bif decide (i26=(3:Int))then(query_words_must.g (decide (i27=(1:Int))) l55 i29 p33 fun l56 i30 p34=>query_reader_whole.g n (recR n d).h22 l56 (wr (i30+(1:Int))) p34 fun l57 l58 i31 p35=>appC 128 l57 [[I 9,.sl false 12 [],.sl false 1 [],.sl false 1 [],.sl false 7 [],S s6,B p31]] fun l59=>query_joined.g [] l59 fun l60=>K l60 l58 i31 p35)else(query_words_must.g false l55 i29 p33 fun l61 i32 p36=>query_reader_whole.g n (recR n d).h22 l61 (wr (i32+(1:Int))) p36 fun l62 l63 i33 p37=>appC 128 l62 [[I 9,.sl false 12 [],.sl false 1 [],.sl false 1 [],.sl false 7 [],S s6,B p31]] fun l64=>query_joined.g [] l64 fun l65=>K l65 l63 i33 p37):=fun K=>by
  unfold query_reader_element.g;simp only[lit];rw[keyq hT hW hd,if_neg (fun h=>by have:=(key_is _ _).1 h;revert this;decide),cond_false,keyq hT hW hd,if_neg (fun h=>by have:=(key_is _ _).1 h;revert this;decide),cond_false,keyq hT hW hd,if_neg (fun h=>by have:=(key_is _ _).1 h;revert this;decide),cond_false,keyq hT hW hd,if_neg (fun h=>by have:=(key_is _ _).1 h;revert this;decide),cond_false,keyq hT hW hd,if_pos ((key_is _ _).2 rfl),cond_true]
 cases p with
 |true=>
  simp only[if_true]at hd1;have hd2:WS.drop (i+1+1)=wTm ⟨1,s,⟨#[]⟩,⟨#[]⟩⟩::(ws++rest):=(by rw[← List.drop_drop,hd1];rfl);obtain⟨B,h3,h4⟩:=main (i+1+1) hd2;refine⟨B,h3,fun K=>?_⟩;rw[hkeys,keyq hT hW hd1,if_pos ((key_is _ _).2 rfl),h4];rw[show i+1+1+1+ws.length=i+(ws.length+2+(if true=true then 1 else 0))by simp;omega]
 |false=>
  simp only[Bool.false_eq_true,if_false,List.nil_append]at hd1;obtain⟨B,h3,h4⟩:=main (i+1) hd1;refine⟨B,h3,fun K=>?_⟩;rw[hkeys,keyq hT hW hd1,if_neg (not_key (show(3:Int) ≠1 by decide) _),h4];rw[show i+1+1+ws.length=i+(ws.length+2+(if false=true then 1 else 0))by simp;omega]
end
end Go.Proofs.YtcfoebkbahpnaaaGreat.Ab
