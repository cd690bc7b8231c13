/- The words of formulas and codes: their texts. -/
import Derived.Test.YtcfoebkbahpnaaaGreatZFzc
set_option linter.unusedVariables false
set_option linter.unusedSimpArgs false
namespace Go.Proofs.YtcfoebkbahpnaaaGreat.Ab
open Go Go.Proofs.YtcfoebkbahpnaaaGreat

def wSig (x : List UInt8) : TokS := ⟨5, ofL x, t0S, 0⟩
def wKey (x : List UInt8) : TokS := ⟨1, ofL x, t0S, 0⟩
def wVar (s : ByteArray) : TokS := ⟨2, s, t0S, 0⟩
def wTm (t : TermS) : TokS := ⟨3, ⟨#[]⟩, t, 0⟩
def wOf (t : TermS) : TokS := if t.f0 = 0 then wKey undefT else if t.f0 = 4 then wVar t.f1 else wTm t
/-- words, each with a blank ahead -/
def Kb (ws : List TokS) : List UInt8 := ws.flatMap fun w => 32 :: wtext w
theorem Kb_app (a b:List TokS):Kb (a++b)=Kb a++Kb b:=by simp[Kb]
theorem Kb_cons (w:TokS) (a:List TokS):Kb (w::a)=32::(wtext w++Kb a):=by simp[Kb]
theorem Kb_nil:Kb []= []:=rfl
theorem J_Kb: ∀ {ws:List TokS},ws≠ []→32::J ws=Kb ws
 | [],h=>absurd rfl h
 | [w],_=>by rw[J_one];simp[Kb]
 |w::v::r,_=>by rw[J_cons,J_Kb (ws:=v::r) (by simp)];exact(Kb_cons w (v::r)).symm
theorem sig_text (x:List UInt8):wtext (wSig x)=x:=rfl
theorem key_text (x:List UInt8):wtext (wKey x)=x:=rfl
theorem var_text (s:ByteArray):wtext (wVar s)=63::s.data.toList:=rfl
theorem tm_text (t:TermS):wtext (wTm t)=ttext (T t):=rfl
theorem of_text {t:TermS} (h:okTm (T t)=true):wtext (wOf t)=ofT (T t):=by
 unfold wOf ofT;by_cases h0:t.f0=0
 ·rw[if_pos h0,if_pos (show(T t).k=0 from h0)];rfl
 rw[if_neg h0,if_neg (show ¬(T t).k=0 from h0)];by_cases h4:t.f0=4
 ·rw[if_pos h4,var_text];have h4':(T t).k=4:=h4;unfold ttext;rw[if_neg (by omega),if_neg (by omega),if_pos h4'];rfl
 rw[if_neg h4];rfl
def comW : List (List TokS) → List TokS
  | [] => []
  | x :: r => x ++ r.flatMap fun y => wSig [44] :: y
def partW (p : PartS) (l : List (List TokS)) : List TokS :=
  if p.f0 = 1 then [wTm p.f1] else if p.f0 = 2 then [wVar p.f2] else if p.f0 = 3 then [wKey [66, 79, 85, 78, 68], wSig [40], wVar p.f2, wSig [41]]
  else if p.f0 ≤ 5 then wSig (sgnT p.f0) :: l.getD 0 []
  else if p.f0 ≤ 17 then wSig [40] :: (l.getD 0 [] ++ wSig (sgnT p.f0) :: (l.getD 1 [] ++ [wSig [41]]))
  else wKey (sgnT p.f0) :: wSig [40] :: (comW l ++ [wSig [41]])
theorem getD_J {l:List (List TokS)} {i:Nat} (hl: ∀ x ∈ l,x≠ []) (hi:i<l.length):32::(l.map J).getD i []=Kb (l.getD i []):=by
 rw[List.getD_eq_getElem?_getD,List.getD_eq_getElem?_getD,List.getElem?_map,List.getElem?_eq_getElem hi];exact J_Kb (hl _ (List.getElem_mem hi))
theorem com_J: ∀ {l:List (List TokS)},(∀ x ∈ l,x≠ [])→l≠ []→32::comA (l.map J)=Kb (comW l)
 | [],_,h=>absurd rfl h
 |x::r,hl,_=>by
  have hr: ∀ r:List (List TokS),(∀ x ∈ r,x≠ [])→((r.map J).flatMap fun y=>32::44::32::y)=Kb (r.flatMap fun y=>wSig [44]::y):=by
   intro r;induction r with
   |nil=>intro _;rfl
   |cons y r ih=>
    intro h;have hy:=J_Kb (h y (List.mem_cons_self ..));rw[List.map_cons,List.flatMap_cons,List.flatMap_cons,ih fun z hz=>h z (List.mem_cons_of_mem _ hz),Kb_app,Kb_cons,sig_text,← hy];simp
  simp only[List.map_cons,comA,comW,Kb_app,hr r fun z hz=>hl z (List.mem_cons_of_mem _ hz),← J_Kb (hl x (List.mem_cons_self ..))];simp
theorem part_J {p:PartS} (h:partOK p=true) {l:List (List TokS)} (hl: ∀ x ∈ l,x≠ []) (hn:(l.length:Int)=fneeds p.f0 p.f3):32::partT p (l.map J)=Kb (partW p l):=by
 have hk:=part_kind h;have hn1:=part_needs h;unfold partT partW;by_cases h1:p.f0=1
 ·rw[if_pos h1,if_pos h1,Kb_cons,tm_text];simp[Kb]
 rw[if_neg h1,if_neg h1];by_cases h2:p.f0=2
 ·rw[if_pos h2,if_pos h2,Kb_cons,var_text];simp[Kb]
 rw[if_neg h2,if_neg h2];by_cases h3:p.f0=3
 ·rw[if_pos h3,if_pos h3];simp[Kb_cons,Kb_nil,key_text,sig_text,var_text]
 rw[if_neg h3,if_neg h3];by_cases h5:p.f0≤5
 ·have:=getD_J (i:=0) hl (by have:=hn1.1 (by omega) h5;omega);rw[if_pos h5,if_pos h5,Kb_cons,sig_text,← this]
 rw[if_neg h5,if_neg h5];by_cases h17:p.f0≤17
 ·have hl2:=hn1.2.1 (by omega) h17;have e0:=getD_J (i:=0) hl (by omega);have e1:=getD_J (i:=1) hl (by omega);rw[if_pos h17,if_pos h17];simp only[Kb_cons,Kb_app,Kb_nil,sig_text,← e0,← e1];simp
 have hl3:=hn1.2.2 (by omega);have e:=com_J hl (by intro e;rw[e]at hn;simp at hn;omega);rw[if_neg h17,if_neg h17];simp only[Kb_cons,Kb_app,Kb_nil,key_text,sig_text,← e];simp
theorem partW_ne (p:PartS) (l:List (List TokS)):partW p l≠ []:=by
 unfold partW;(repeat' split)<;>simp
def formW : List PartS → List (List TokS) → List (List TokS)
  | [], l => l
  | p :: r, l => formW r (l.take (l.length - (fneeds p.f0 p.f3).toNat) ++ [partW p (l.drop (l.length - (fneeds p.f0 p.f3).toNat))])
theorem J_inj_of {a b:List UInt8} (h:(32:UInt8)::a=32::b):a=b:=by injection h
theorem form_J: ∀ (r:List PartS) (l:List (List TokS)),fchk (l.length:Int) r=0→(∀ x ∈ l,x≠ [])→formP r (l.map J)=(formW r l).map J∧ ∀ x ∈ formW r l,x≠ []
 | [],l,_,hl=>⟨rfl,hl⟩
 |p::r,l,hc,hl=>by
  have hc':fchk ((l.map J).length:Int) (p::r)=0:=(by rw[List.length_map];exact hc);obtain⟨hp,N,hN,hle,h16,hd,hc2,he,_,_⟩:=form_step hc';rw[List.length_map]at hle hd hc2 he;have hlen:(l.drop (l.length - N)).length=N:=(by rw[List.length_drop];omega);have hW:formW (p::r) l=formW r (l.take (l.length - N)++ [partW p (l.drop (l.length - N))]):=(by rw[formW,hN,Int.toNat_natCast]);(have hdr: ∀ x ∈ l.drop (l.length - N),x≠ []:=fun x hx=>hl x (List.mem_of_mem_drop hx));have hpj:partT p ((l.map J).drop (l.length - N))=J (partW p (l.drop (l.length - N))):=by
   rw[← List.map_drop];exact J_inj_of ((part_J hp hdr (by rw[hlen,hN])).trans (J_Kb (partW_ne _ _)).symm)
  rw[hpj,← List.map_take]at he hc2;have hnew: ∀ x ∈ l.take (l.length - N)++ [partW p (l.drop (l.length - N))],x≠ []:=fun x hx=>by
   rcases List.mem_append.1 hx with h|h
   ·exact hl x (List.mem_of_mem_take h)
   rw[List.mem_singleton.1 h];exact partW_ne _ _
  have ih:=form_J r (l.take (l.length - N)++ [partW p (l.drop (l.length - N))]) (by
   rw[show(l.take (l.length - N)++ [partW p (l.drop (l.length - N))]).length=((l.take (l.length - N)).map J++ [J (partW p (l.drop (l.length - N)))]).length by simp]
   exact hc2) hnew
  rw[he,hW,← ih.1];exact⟨by rw[List.map_append];rfl,ih.2⟩
/-- a formula's words -/
def fW (x : List PartS) : List TokS := (formW x []).getD 0 []
theorem fW_J {x:List PartS} (h:fcheck x=0):formW x []= [fW x]∧fW x≠ []∧formT x=J (fW x):=by
 obtain⟨hl,hc⟩:=fcheck_ok h;obtain⟨h1,h2,h3⟩:=formT_is h;have hj:=form_J x [] hc (fun y hy=>by cases hy);rw[List.map_nil,h1]at hj;unfold fW;match hq:formW x [],hj with
 | [w],hj=>exact⟨rfl,hj.2 w (List.mem_cons_self ..),by simpa using hj.1⟩
 | [],hj=>simp at hj
 |_::_::_,hj=>simp at hj
/-! operations -/
def triW (t : TriS) : List TokS := [wOf t.f0, wOf t.f1, wOf t.f2, wSig [46]]
def basW (l : List TriS) : List TokS := wSig [123] :: (l.flatMap triW ++ [wSig [125]])
def rowW (row : List TermS) : List TokS := wSig [40] :: (row.map wOf ++ [wSig [41]])
def tabW (vars : List ByteArray) (rows : List (List TermS)) : List TokS := wSig [123] :: wKey [86, 65, 76, 85, 69, 83] :: wSig [40] :: (vars.map wVar ++ wSig [41] :: wSig [123] :: (rows.flatMap rowW ++ [wSig [125], wSig [125]]))
def opW (o : OpS) (l : List (List TokS)) : List TokS :=
  if o.f0 = 1 then basW o.f1 else if o.f0 = 2 then tabW o.f2.f0 o.f2.f1
  else if o.f0 = 3 then wSig [123] :: (l.getD 0 [] ++ (l.getD 1 [] ++ [wSig [125]]))
  else if o.f0 = 4 then wSig [123] :: (l.getD 0 [] ++ wKey [85, 78, 73, 79, 78] :: (l.getD 1 [] ++ [wSig [125]]))
  else if o.f0 = 6 then wSig [123] :: (l.getD 0 [] ++ wKey [77, 73, 78, 85, 83] :: (l.getD 1 [] ++ [wSig [125]]))
  else if o.f0 = 5 then (if o.f3 = [] then wSig [123] :: (l.getD 0 [] ++ wKey [79, 80, 84, 73, 79, 78, 65, 76] :: wSig [123] :: (l.getD 1 [] ++ [wSig [125], wSig [125]]))
    else wSig [123] :: (l.getD 0 [] ++ wKey [79, 80, 84, 73, 79, 78, 65, 76] :: wSig [123] :: (l.getD 1 [] ++ wKey [70, 73, 76, 84, 69, 82] :: wSig [40] :: (fW o.f3 ++ [wSig [41], wSig [125], wSig [125]]))))
  else if o.f0 = 7 then wSig [123] :: (l.getD 0 [] ++ wKey [70, 73, 76, 84, 69, 82] :: wSig [40] :: (fW o.f3 ++ [wSig [41], wSig [125]]))
  else if o.f0 = 8 then wSig [123] :: (l.getD 0 [] ++ wKey [66, 73, 78, 68] :: wSig [40] :: (fW o.f3 ++ [wKey [65, 83], wVar o.f4, wSig [41], wSig [125]]))
  else wSig [123] :: wKey [83, 69, 82, 86, 73, 67, 69] :: ((if o.f5 = true then [wKey [83, 73, 76, 69, 78, 84]] else []) ++ wTm ⟨1, o.f4, ⟨#[]⟩, ⟨#[]⟩⟩ :: (l.getD 0 [] ++ [wSig [125]]))
theorem bas_J {l:List TriS} (h: ∀ t ∈ l,tri3 t):32::basT l=Kb (basW l):=by
 have key: ∀ l:List TriS,(∀ t ∈ l,tri3 t)→l.flatMap triT=Kb (l.flatMap triW):=by
  intro l;induction l with
  |nil=>intro _;rfl
  |cons t r ih=>
   intro h;have h3:=h t (List.mem_cons_self ..);rw[List.flatMap_cons,List.flatMap_cons,Kb_app,ih fun x hx=>h x (List.mem_cons_of_mem _ hx)];congr 1;simp only[triW,triT,Kb_cons,Kb_nil,of_text h3.1,of_text h3.2.1,of_text h3.2.2,sig_text];simp
 unfold basT basA basW;rw[key l h,Kb_cons,Kb_app,Kb_cons,Kb_nil,sig_text,sig_text];simp
theorem row_J {row:List TermS} (h: ∀ t ∈ row,okTm (T t)=true):rowT row=Kb (rowW row):=by
 have key: ∀ l:List TermS,(∀ t ∈ l,okTm (T t)=true)→rowA l=Kb (l.map wOf):=by
  intro l;induction l with
  |nil=>intro _;rfl
  |cons t r ih=>
   intro h;(have:=ih fun x hx=>h x (List.mem_cons_of_mem _ hx));unfold rowA at this ⊢;rw[List.flatMap_cons,this,List.map_cons,Kb_cons,of_text (h t (List.mem_cons_self ..))];simp
 unfold rowT rowW;rw[key row h,Kb_cons,Kb_app,Kb_cons,Kb_nil,sig_text,sig_text];simp
theorem tab_J {vars:List ByteArray} {rows:List (List TermS)} (h:tabOK vars rows):32::tabT vars rows=Kb (tabW vars rows):=by
 have key: ∀ l:List (List TermS),(∀ r ∈ l,∀ t ∈ r,okTm (T t)=true)→l.flatMap rowT=Kb (l.flatMap rowW):=by
  intro l;induction l with
  |nil=>intro _;rfl
  |cons t r ih=>
   intro h;rw[List.flatMap_cons,List.flatMap_cons,Kb_app,ih fun x hx=>h x (List.mem_cons_of_mem _ hx),row_J (h t (List.mem_cons_self ..))]
 have kv: ∀ l:List ByteArray,(l.flatMap fun v=>32::63::v.data.toList)=Kb (l.map wVar):=by
  intro l;induction l with
  |nil=>rfl
  |cons v r ih=>rw[List.flatMap_cons,ih,List.map_cons,Kb_cons,var_text];simp
 unfold tabT tabA vrsA tabW;rw[key rows h.t,kv];simp only[Kb_cons,Kb_app,Kb_nil,sig_text,key_text];simp
theorem op_J {o:OpS} (h:OpF o) {l:List (List TokS)} (hl: ∀ x ∈ l,x≠ []) (hn:(l.length:Int)=opNeeds o.f0):32::opT o (l.map J)=Kb (opW o l):=by
 have hk:=h.k;have hnd:opNeeds o.f0=(if o.f0=1∨o.f0=2 then 0 else if 7≤o.f0∧o.f0≤9 then 1 else if 3≤o.f0∧o.f0≤6 then 2 else -1):=rfl;unfold opT opW;by_cases h1:o.f0=1
 ·rw[if_pos h1,if_pos h1];exact bas_J (h.a h1).2
 rw[if_neg h1,if_neg h1];by_cases h2:o.f0=2
 ·rw[if_pos h2,if_pos h2];exact tab_J (h.b h2)
 rw[if_neg h2,if_neg h2];rw[if_neg (by omega)]at hnd;have hl0:0<l.length:=by
  by_cases c:7≤o.f0∧o.f0≤9
  ·rw[if_pos c]at hnd;omega
  rw[if_neg c,if_pos (by omega)]at hnd;omega
 (have hl1:o.f0≤6→1<l.length:=fun c=>by rw[if_neg (by omega),if_pos (by omega)]at hnd;omega);have e0:=getD_J (i:=0) hl hl0;by_cases h3:o.f0=3
 ·have e1:=getD_J (i:=1) hl (hl1 (by omega));rw[if_pos h3,if_pos h3];simp only[Kb_cons,Kb_app,Kb_nil,sig_text,key_text,← e0,← e1];simp
 rw[if_neg h3,if_neg h3];by_cases h4:o.f0=4
 ·have e1:=getD_J (i:=1) hl (hl1 (by omega));rw[if_pos h4,if_pos h4];simp only[Kb_cons,Kb_app,Kb_nil,sig_text,key_text,← e0,← e1];simp
 rw[if_neg h4,if_neg h4];by_cases h6:o.f0=6
 ·have e1:=getD_J (i:=1) hl (hl1 (by omega));rw[if_pos h6,if_pos h6];simp only[Kb_cons,Kb_app,Kb_nil,sig_text,key_text,← e0,← e1];simp
 rw[if_neg h6,if_neg h6];by_cases h5:o.f0=5
 ·have e1:=getD_J (i:=1) hl (hl1 (by omega));rw[if_pos h5,if_pos h5];rcases h.e h5 with he|⟨he,hc⟩
  ·rw[if_pos he,if_pos he];simp only[Kb_cons,Kb_app,Kb_nil,sig_text,key_text,← e0,← e1,sOpt];simp
  obtain⟨_,hf2,hf3⟩:=fW_J hc;rw[if_neg he,if_neg he];simp only[Kb_cons,Kb_app,Kb_nil,sig_text,key_text,← e0,← e1,← J_Kb hf2,hf3,sOpt,sFilter];simp
 rw[if_neg h5,if_neg h5];by_cases h7:o.f0=7
 ·obtain⟨_,hf2,hf3⟩:=fW_J (h.f (.inl h7));rw[if_pos h7,if_pos h7];simp only[Kb_cons,Kb_app,Kb_nil,sig_text,key_text,← e0,← J_Kb hf2,hf3,sFilter];simp
 rw[if_neg h7,if_neg h7];by_cases h8:o.f0=8
 ·obtain⟨_,hf2,hf3⟩:=fW_J (h.f (.inr h8));rw[if_pos h8,if_pos h8];simp only[Kb_cons,Kb_app,Kb_nil,sig_text,key_text,var_text,← e0,← J_Kb hf2,hf3];simp
 rw[if_neg h8,if_neg h8];have et:ttext (T ⟨1,o.f4,⟨#[]⟩,⟨#[]⟩⟩)=60::(o.f4.data.toList++ [62]):=rfl;cases o.f5 with
 |true=>simp only[Kb_cons,Kb_app,Kb_nil,sig_text,key_text,tm_text,et,← e0,if_true];simp
 |false=>simp only[Kb_cons,Kb_app,Kb_nil,sig_text,key_text,tm_text,et,← e0,Bool.false_eq_true,if_false];simp
theorem opW_ne (o:OpS) (l:List (List TokS)):opW o l≠ []:=by
 unfold opW basW tabW;(repeat' split)<;>simp
def codeW : List OpS → List (List TokS) → List (List TokS)
  | [], l => l
  | o :: r, l => codeW r (l.take (l.length - (opNeeds o.f0).toNat) ++ [opW o (l.drop (l.length - (opNeeds o.f0).toNat))])
theorem code_J: ∀ (r:List OpS) (l:List (List TokS)),okRunP l.length r→(∀ x ∈ l,x≠ [])→codeP r (l.map J)=(codeW r l).map J∧ ∀ x ∈ codeW r l,x≠ []
 | [],l,_,hl=>⟨rfl,hl⟩
 |o::r,l,hc,hl=>by
  have hc':okRunP (l.map J).length (o::r):=(by rw[List.length_map];exact hc);obtain⟨hok,N,hN,hle,h2,hd,hc2,he,_,_⟩:=code_step hc';rw[List.length_map]at hle hd hc2 he;have hlen:(l.drop (l.length - N)).length=N:=(by rw[List.length_drop];omega);have hW:codeW (o::r) l=codeW r (l.take (l.length - N)++ [opW o (l.drop (l.length - N))]):=(by rw[codeW,hN,Int.toNat_natCast]);(have hdr: ∀ x ∈ l.drop (l.length - N),x≠ []:=fun x hx=>hl x (List.mem_of_mem_drop hx));have hpj:opT o ((l.map J).drop (l.length - N))=J (opW o (l.drop (l.length - N))):=by
   rw[← List.map_drop];exact J_inj_of ((op_J (opF_of hok) hdr (by rw[hlen,hN])).trans (J_Kb (opW_ne _ _)).symm)
  rw[hpj,← List.map_take]at he hc2;have hnew: ∀ x ∈ l.take (l.length - N)++ [opW o (l.drop (l.length - N))],x≠ []:=fun x hx=>by
   rcases List.mem_append.1 hx with h|h
   ·exact hl x (List.mem_of_mem_take h)
   rw[List.mem_singleton.1 h];exact opW_ne _ _
  have ih:=code_J r (l.take (l.length - N)++ [opW o (l.drop (l.length - N))]) (by
   rw[show(l.take (l.length - N)++ [opW o (l.drop (l.length - N))]).length=((l.take (l.length - N)).map J++ [J (opW o (l.drop (l.length - N)))]).length by simp]
   exact hc2) hnew
  rw[he,hW,← ih.1];exact⟨by rw[List.map_append];rfl,ih.2⟩
end Go.Proofs.YtcfoebkbahpnaaaGreat.Ab
