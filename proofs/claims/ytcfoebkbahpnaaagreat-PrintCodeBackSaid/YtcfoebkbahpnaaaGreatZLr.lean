/- What formula.Parse comes to on a formula's words. -/
import Derived.Test.YtcfoebkbahpnaaaGreatZLq
set_option linter.unusedSectionVars false
set_option linter.unusedVariables false
set_option linter.unusedSimpArgs false
namespace Go.Proofs.YtcfoebkbahpnaaaGreat.Ab
open Go Go.Proofs.YtcfoebkbahpnaaaGreat

/-- rows of words, wherever they stand -/
def Toks (l : RW) (WS : List TokS) : Prop := l.length = WS.length ∧ ∀ (i : Nat) (w : TokS), WS[i]? = some w → ∃ a : Int, l[i]? = some [I w.k, S w.x, I w.t.f0, S w.t.f1, S w.t.f2, S w.t.f3, I a]
theorem toksAt_ok: ∀ (ws:List TokS) (p:Nat),Toks ((toksAt p ws).map eTok) ws
 | [],p=>⟨rfl,fun i w h=>by simp at h⟩
 |w::r,p=>by
  obtain⟨h1,h2⟩:=toksAt_ok r (p+(wtext w).length+1);refine⟨by simp[toksAt]at h1 ⊢;exact h1,fun i v h=>?_⟩;cases i with
  |zero=>simp at h;subst h;exact⟨p,rfl⟩
  |succ i=>
   obtain⟨a,ha⟩:=h2 i v (by simpa using h);exact⟨a,by simpa [toksAt]using ha⟩
theorem toks_rd {l:RW} {WS:List TokS} (hT:Toks l WS) {i:Nat} {w:TokS} {r:List TokS} (h:WS.drop i=w::r):i<l.length∧ ∃ a:Int,∀ K:Int→ByteArray→Int→ByteArray→ByteArray→ByteArray→Int→Option R,rd_isisssi l i K=K w.k w.x w.t.f0 w.t.f1 w.t.f2 w.t.f3 a:=by
 obtain⟨hg,hi,_,_⟩:=get_drop h;obtain⟨a,ha⟩:=hT.2 i w hg;exact⟨by rw[hT.1];exact hi,a,fun K=>by unfold rd_isisssi rowC;rw[ha];rfl⟩
/-- is a word this sign? -/
def isS (w : TokS) (s : List UInt8) : Prop := w.k = 5 ∧ w.x.data.toList = s
instance (w : TokS) (s : List UInt8) : Decidable (isS w s) := by unfold isS; infer_instance
theorem takes_g {l:RW} {WS:List TokS} (hT:Toks l WS) (hW:WS.length≤4096) {i:Nat} {w:TokS} {r:List TokS} (h:WS.drop i=w::r) (s:List UInt8) (out:RW) (p:Bool) (K:Bool→RW→Int→RW→Bool→Option R):
 formula_parser_takes.g (ofL s) l (i:Int) out p K=if isS w s then K true l ((i+1:Nat):Int) out p else K false l (i:Int) out p:=by
 obtain⟨hi,a,hr⟩:=toks_rd hT h;have:=hT.1;unfold formula_parser_takes.g formula_parser_is.g;simp only[bifd,bifd2,Int.toNat_natCast,hr,bifn];rw[if_pos (by omega),if_pos (by omega)];by_cases hk:w.k=5
 ·rw[if_pos hk,if_pos (by omega),strEq_dec,ofL_toList];by_cases hs:w.x.data.toList=s
  ·rw[decide_eq_true hs,if_pos (show isS w s from⟨hk,hs⟩),cond_true,wr_succ (by omega)]
  rw[decide_eq_false hs,if_neg (show ¬ isS w s from fun h=>hs h.2)];rfl
 rw[if_neg hk,if_neg (show ¬ isS w s from fun h=>hk h.1)];rfl
theorem sig_is (x s:List UInt8):isS (wSig x) s ↔ x=s:=by
 unfold isS wSig;simp[ofL_toList]
theorem not_sig {w:TokS} (h:w.k≠5) (s:List UInt8):¬ isS w s:=fun e=>h e.1
theorem must_g {l:RW} {WS:List TokS} (hT:Toks l WS) (hW:WS.length≤4096) {i:Nat} {x:List UInt8} {r:List TokS} (h:WS.drop i=wSig x::r) (out:RW) (K:RW→Int→RW→Bool→Option R):
 formula_parser_must.g (ofL x) l (i:Int) out false K=K l ((i+1:Nat):Int) out false:=by
 unfold formula_parser_must.g;rw[cond_false,takes_g hT hW h,if_pos ((sig_is x x).2 rfl)];rfl
theorem add_g (p:PartS) (out:List PartS) (ho:out.length≤1000) (l:RW) (i:Int) (bad:Bool) (K:RW→Int→RW→Bool→Option R):
 formula_parser_add.g p.f0 p.f1.f0 p.f1.f1 p.f1.f2 p.f1.f3 p.f2 p.f3 l i (out.map ePart) bad K=K l i ((out++ [p]).map ePart) bad:=by
 unfold formula_parser_add.g;rw[appC_ok (by simp;omega) (by simp;omega)];congr 1;simp[ePart,DV.dis1]
/-! signs of levels -/
def sgL : Nat → List Int
  | 0 => [7]
  | 1 => [6]
  | 2 => [8, 9, 10, 11, 12, 13]
  | 3 => [14, 15]
  | _ => [16, 17]
theorem signs_g (lv:Nat) (h:lv≤4) (K:RW→Option R):formula_signs.g (lv:Int) K=K ((sgL lv).map fun k=> [I k]):=by
 match lv,h with
 |0,_=>rfl
 |1,_=>rfl
 |2,_=>rfl
 |3,_=>rfl
 |4,_=>rfl
theorem sgL_le {lv:Nat} {k:Int} (h:k ∈ sgL lv):6≤k∧k≤17:=by
 match lv,h with
 |0,h=>simp[sgL]at h;omega
 |1,h=>simp[sgL]at h;omega
 |2,h=>simp[sgL]at h;omega
 |3,h=>simp[sgL]at h;omega
 |n+4,h=>simp[sgL]at h;omega
def Free (lv : Nat) (v : TokS) : Prop := ∀ j, lv ≤ j → j ≤ 4 → ∀ k ∈ sgL j, ¬ isS v (sgnT k)
theorem Free.up {lv:Nat} {v:TokS} (h:Free lv v):Free (lv+1) v:=fun j hj=>h j (by omega)
section
variable {n:Nat} (hn:100<n) {l:RW} {WS:List TokS} (hT:Toks l WS) (hW:WS.length≤4096)
include hT hW
theorem rd_i_k {ks:List Int} {j:Nat} {k:Int} (h:ks[j]? =some k) (K:Int→Option R):rd_i (ks.map fun k=> [I k]) j K=K k:=by
 unfold rd_i rowC;rw[List.getElem?_map,h];rfl
theorem l5_no (h89:T89) (h99:T99) (i7:Int) (ks:List Int) (hks: ∀ k ∈ ks,0≤k∧k<27) {i:Nat} {v:TokS} {r0:List TokS} (hd0:WS.drop i=v::r0) (hf: ∀ k ∈ ks,¬ isS v (sgnT k)) (hkl:ks.length<100) (out:RW) (p:Bool) (k0:RW→Int→RW→Bool→Option R) (k1:Int→RW→Int→RW→Bool→Option R) (k2:RW→Int→RW→Bool→Option R): ∀ (r:List Int) (j m:Nat),ks.drop j=r→r.length<m→
 formula_parser_level.l5 n h89 h99 m i7 (ks.map fun k=> [I k]) (ks.length:Int) (j:Int) l (i:Int) out p k0 k1 k2=k2 l (i:Int) out p
 |r,j,0,hd,hm=>by omega
 | [],j,m+1,hd,hm=>by
  have:=len_drop hd;rw[formula_parser_level.l5];simp only[bifd];rw[if_neg (by omega)]
 |k::r,j,m+1,hd,hm=>by
  obtain⟨hg,hj,hr,_⟩:=get_drop hd;have hk:=hks k (List.mem_of_getElem? hg);have ih:=l5_no h89 h99 i7 ks hks hd0 hf hkl out p k0 k1 k2 r (j+1) m hr (by simpa using hm);rw[formula_parser_level.l5];simp only[bifd,bifd2,List.length_map,Int.toNat_natCast];rw[if_pos (by omega),if_pos (by omega),rd_i_k hT hW hg,sign_g hk,takes_g hT hW hd0,if_neg (hf k (List.mem_of_getElem? hg)),cond_false,wr_succ (by omega)];exact ih
theorem l5_yes (h89:T89) (h99:T99) (i7:Int) (ks:List Int) (hks: ∀ k ∈ ks,0≤k∧k<27) {i:Nat} {v:TokS} {r0:List TokS} (hd0:WS.drop i=v::r0) (k:Int) (hk:isS v (sgnT k)) (hkl:ks.length<100) (out:RW) (p:Bool) (k0:RW→Int→RW→Bool→Option R) (k1:Int→RW→Int→RW→Bool→Option R) (k2:RW→Int→RW→Bool→Option R): ∀ (pre post:List Int) (j m:Nat),ks.drop j=pre++k::post→(∀ x ∈ pre,¬ isS v (sgnT x))→pre.length<m→
 formula_parser_level.l5 n h89 h99 m i7 (ks.map fun k=> [I k]) (ks.length:Int) (j:Int) l (i:Int) out p k0 k1 k2=
  h89 (wr (i7+(1:Int))) l ((i+1:Nat):Int) out p fun l15 i13 l16 p8=>formula_parser_add.g k 0 ⟨#[]⟩ ⟨#[]⟩ ⟨#[]⟩ ⟨#[]⟩ 0 l15 i13 l16 p8 fun l17 i14 l18 p9=>bif decide (i7=(2:Int))then(k0 l17 i14 l18 p9)else(k1 i7 l17 i14 l18 p9)
 |pre,post,j,0,hd,hf,hm=>by omega
 | [],post,j,m+1,hd,hf,hm=>by
  obtain⟨hg,hj,hr,_⟩:=get_drop (show ks.drop j=k::post from hd);rw[formula_parser_level.l5];simp only[bifd2,Int.toNat_natCast,List.length_map];rw[bifd,if_pos (by omega),if_pos (by omega),rd_i_k hT hW hg,sign_g (hks k (List.mem_of_getElem? hg)),takes_g hT hW hd0,if_pos hk,cond_true]
 |x::pre,post,j,m+1,hd,hf,hm=>by
  obtain⟨hg,hj,hr,_⟩:=get_drop (show ks.drop j=x::(pre++k::post)from hd);have ih:=l5_yes h89 h99 i7 ks hks hd0 k hk hkl out p k0 k1 k2 pre post (j+1) m hr (fun y hy=>hf y (List.mem_cons_of_mem _ hy)) (by simpa using hm);rw[formula_parser_level.l5];simp only[bifd2,Int.toNat_natCast,List.length_map];rw[bifd,if_pos (by omega),if_pos (by omega),rd_i_k hT hW hg,sign_g (hks x (List.mem_of_getElem? hg)),takes_g hT hW hd0,if_neg (hf x (List.mem_cons_self ..)),cond_false,wr_succ (by omega)];exact ih
end
/-- words that a signed one reads -/
def Sg (n : Nat) (l : RW) (WS : List TokS) (ws : List TokS) (ps : List PartS) (D : Nat) : Prop :=
  ∀ (d i : Nat) (v : TokS) (r : List TokS) (out : List PartS) (K : RW → Int → RW → Bool → Option R), WS.drop i = ws ++ v :: r → out.length + ps.length ≤ 1000 → D ≤ d →
    (recP n d).h99 l (i : Int) (out.map ePart) false K = K l ((i + ws.length : Nat) : Int) ((out ++ ps).map ePart) false
/-- words that a level reads -/
def Lv (n : Nat) (l : RW) (WS : List TokS) (lv : Nat) (ws : List TokS) (ps : List PartS) (D : Nat) : Prop :=
  ∀ (d i : Nat) (v : TokS) (r : List TokS) (out : List PartS) (K : RW → Int → RW → Bool → Option R), WS.drop i = ws ++ v :: r → Free lv v → out.length + ps.length ≤ 1000 → D ≤ d →
    (recP n d).h89 (lv : Int) l (i : Int) (out.map ePart) false K = K l ((i + ws.length : Nat) : Int) ((out ++ ps).map ePart) false
theorem drop_more {α:Type} {WS ws:List α} {i:Nat} {r:List α} (h:WS.drop i=ws++r):WS.drop (i+ws.length)=r:=by
 rw[← List.drop_drop,h,List.drop_left]
section
variable {n:Nat} (hn:100<n) {l:RW} {WS:List TokS} (hT:Toks l WS) (hW:WS.length≤4096)
include hn hT hW
theorem sgL_ok (lv:Nat):(∀ k ∈ sgL lv,0≤k∧k<27)∧(sgL lv).length≤6:=by
 refine⟨fun k hk=>by have:=sgL_le hk;omega,?_⟩;match lv with
 |0=>decide
 |1=>decide
 |2=>decide
 |3=>decide
 |_+4=>exact(by decide:2≤6)
theorem l3_no (h89:T89) (h99:T99) {lv:Nat} (hl:lv≤4) {i:Nat} {v:TokS} {r0:List TokS} (hd:WS.drop i=v::r0) (hf:Free lv v) (out:RW) (m:Nat) (K:RW→Int→RW→Bool→Option R):
 formula_parser_level.l3 n h89 h99 (m+1) (lv:Int) l (i:Int) out false K=K l (i:Int) out false:=by
 obtain⟨h1,h2⟩:=sgL_ok hn hT hW lv;have e:=l5_no (n:=n) hT hW h89 h99 (lv:Int) (sgL lv) h1 hd (hf lv (Nat.le_refl _) hl) (by omega) out false K (fun i16 l21 i17 l22 p11=>formula_parser_level.l3 n h89 h99 m i16 l21 i17 l22 p11 K) K (sgL lv) 0 n rfl (by omega);rw[formula_parser_level.l3];simp only[bifn,cond_false,signs_g lv hl,List.length_map];exact e
theorem lv_step {lv:Nat} (hl:lv≤4) {ws:List TokS} {ps:List PartS} {D:Nat} (h:Lv n l WS (lv+1) ws ps D):Lv n l WS lv ws ps (D+1):=by
 intro d i v r out K hd hf ho hD;obtain⟨e,rfl⟩: ∃ e,d=e+1:=⟨d - 1,by omega⟩;obtain⟨m,rfl⟩: ∃ m,n=m+1:=⟨n - 1,by omega⟩;(show formula_parser_level.g (m+1) (recP (m+1) e).h89 (recP (m+1) e).h99 (lv:Int) l (i:Int) (out.map ePart) false K=_);unfold formula_parser_level.g;rw[bifd,if_neg (by omega),wr_succ (by omega),h e i v r out _ hd hf.up ho (by omega)];exact l3_no hn hT hW _ _ hl (drop_more hd) hf _ m K
theorem lv_five {ws:List TokS} {ps:List PartS} {D:Nat} (h:Sg n l WS ws ps D):Lv n l WS 5 ws ps (D+1):=by
 intro d i v r out K hd hf ho hD;obtain⟨e,rfl⟩: ∃ e,d=e+1:=⟨d - 1,by omega⟩;(show formula_parser_level.g n (recP n e).h89 (recP n e).h99 ((5:Nat):Int) l (i:Int) (out.map ePart) false K=_);unfold formula_parser_level.g;rw[bifd,if_pos (by omega),h e i v r out _ hd ho (by omega)]
theorem lv_of : ∀ (j lv : Nat), lv + j = 5 → ∀ {ws : List TokS} {ps : List PartS} {D : Nat}, Sg n l WS ws ps D → Lv n l WS lv ws ps (D + 1 + j)
  | 0, lv, e, ws, ps, D, h => by obtain rfl : lv = 5 := by omega
                                 exact lv_five hn hT hW h
  | j + 1, lv, e, ws, ps, D, h => lv_step hn hT hW (by omega) (lv_of j (lv + 1) (by omega) h)
theorem lv_down: ∀ (j lv:Nat),lv+j≤5→ ∀ {ws:List TokS} {ps:List PartS} {D:Nat},Lv n l WS (lv+j) ws ps D→Lv n l WS lv ws ps (D+j)
 |0,lv,e,ws,ps,D,h=>h
 |j+1,lv,e,ws,ps,D,h=>by
  have h':Lv n l WS (lv+j+1) ws ps D:=(by rw[Nat.add_assoc];exact h);have h2:=lv_down j lv (by omega) (lv_step hn hT hW (lv:=lv+j) (by omega) h');rw[show D+(j+1)=D+1+j by omega];exact h2
/-- a part that is no term, no variable -/
def bareP (k : Int) (c : Int) : PartS := ⟨k, t0S, ⟨#[]⟩, c⟩
/-- the sign of a level -/
theorem lv_bin {lv:Nat} (hl:lv≤4) {k:Int} {pre post:List Int} (hs:sgL lv=pre++k::post) (hpre: ∀ x ∈ pre,sgnT k≠sgnT x) (hfree:Free (lv+1) (wSig (sgnT k))) {a b:List TokS} {pa pb:List PartS} {D:Nat} (ha:Lv n l WS (lv+1) a pa D) (hb:Lv n l WS (lv+1) b pb D):
 Lv n l WS lv (a++wSig (sgnT k)::b) (pa++(pb++ [bareP k 0])) (D+1):=by
 intro d i v r out K hd hf ho hD;obtain⟨e,rfl⟩: ∃ e,d=e+1:=⟨d - 1,by omega⟩;obtain⟨m,rfl⟩: ∃ m,n=m+2:=⟨n - 2,by omega⟩;simp only[List.length_append,List.length_cons,List.length_nil]at ho;have hd1:WS.drop i=a++wSig (sgnT k)::(b++v::r):=(by rw[hd];simp);have hd2:WS.drop (i+a.length)=wSig (sgnT k)::(b++v::r):=drop_more hd1;have hd3:WS.drop (i+a.length+1)=b++v::r:=(by rw[← List.drop_drop,hd2];rfl);have hd4:WS.drop (i+a.length+1+b.length)=v::r:=drop_more hd3;obtain⟨h1,h2⟩:=sgL_ok hn hT hW lv;(show formula_parser_level.g (m+2) (recP (m+2) e).h89 (recP (m+2) e).h99 (lv:Int) l (i:Int) (out.map ePart) false K=_);unfold formula_parser_level.g;rw[bifd,if_neg (by omega),wr_succ (by omega),ha e i _ _ out _ hd1 hfree (by omega) (by omega)];rw[formula_parser_level.l3];simp only[bifn,cond_false,signs_g lv hl,List.length_map];have hy:=l5_yes (n:=m+2) hT hW (recP (m+2) e).h89 (recP (m+2) e).h99 (lv:Int) (sgL lv) h1 hd2 k ((sig_is _ _).2 rfl) (by omega) ((out++pa).map ePart) false K (fun i16 l21 i17 l22 p11=>formula_parser_level.l3 (m+2) (recP (m+2) e).h89 (recP (m+2) e).h99 (m+1) i16 l21 i17 l22 p11 K) K pre post 0 (m+2) hs (fun x hx h=>hpre x hx ((sig_is _ _).1 h)) (by rw[hs]at h2;simp at h2;omega);rw[show((0:Nat):Int)=0 from rfl]at hy;rw[hy,wr_succ (by omega),hb e (i+a.length+1) v r (out++pa) _ hd3 hf.up (by simp;omega) (by omega)];have hadd:=add_g (bareP k 0) (out++pa++pb) (by simp;omega) l ((i+a.length+1+b.length:Nat):Int) false;unfold bareP t0S at hadd;rw[hadd];have e1:(out++pa++pb++ [(⟨k,⟨0,⟨#[]⟩,⟨#[]⟩,⟨#[]⟩⟩,⟨#[]⟩,0⟩:PartS)])=out++(pa++(pb++ [bareP k 0])):=(by simp[bareP,t0S]);rw[e1,show i+(a++wSig (sgnT k)::b).length=i+a.length+1+b.length by simp;omega];have h3:=l3_no hn hT hW (recP (m+2) e).h89 (recP (m+2) e).h99 hl hd4 hf ((out++(pa++(pb++ [bareP k 0]))).map ePart) m K;rw[bifd];split
 ·rfl
 exact h3
end
end Go.Proofs.YtcfoebkbahpnaaaGreat.Ab
