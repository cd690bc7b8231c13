import Derived.Test.YtcfoebkbahpnaaaGreatZLc
import Derived.Test.YtcfoebkbahpnaaaGreatZSt
import Derived.Test.YtcfoebkbahpnaaaGreatZFb
/- What triples.CheckPattern, slices.Contains, scope.Right and triples.Vars come to. -/
set_option linter.unusedVariables false
set_option linter.unusedSimpArgs false
namespace Go.Proofs.YtcfoebkbahpnaaaGreat.Ab
open Go Go.Proofs.YtcfoebkbahpnaaaGreat

theorem triOK_g (t:TriS) {n:Nat} (hn:Fuel n) (ht:t.lt n) (K:Bool→Option R):
 triples_right.g n t.f0.f0 t.f0.f1 t.f0.f2 t.f0.f3 t.f1.f0 t.f1.f1 t.f1.f2 t.f1.f3 t.f2.f0 t.f2.f1 t.f2.f2 t.f2.f3 K=K (triOK t):=by
 unfold triples_right.g triples_terms.g;obtain⟨m,rfl⟩: ∃ m,n=m+4:=⟨n - 4,by have:=hn.1;omega⟩;have w0:wr ((0:Int)+1)=1:=(by decide);have w1:wr ((1:Int)+1)=2:=(by decide);have w2:wr ((2:Int)+1)=3:=(by decide);simp only[triples_right.l2,check_t t.f0 hn ht.1,check_t t.f1 hn ht.2.1,check_t t.f2 hn ht.2.2,w0,w1,w2];unfold triOK;cases okTm (T t.f0)<;>cases okTm (T t.f1)<;>cases okTm (T t.f2)<;>rfl
theorem patOK_g (t:TriS) {n:Nat} (hn:Fuel n) (ht:t.lt n) (K:Int→Option R):
 triples_CheckPattern.g n t.f0.f0 t.f0.f1 t.f0.f2 t.f0.f3 t.f1.f0 t.f1.f1 t.f1.f2 t.f1.f3 t.f2.f0 t.f2.f1 t.f2.f2 t.f2.f3 K=K (e02 (patOK t)):=by
 unfold triples_CheckPattern.g patOK;rw[triOK_g t hn ht];(have e: ∀ a b:Int,(a==b)=decide (a=b):=fun a b=>rfl);simp only[bifn,bifd,e];cases triOK t with
 |false=>rfl
 |true=>
  by_cases a1:t.f0.f0=1<;>by_cases a4:t.f0.f0=4<;>by_cases b1:t.f1.f0=1<;>by_cases b4:t.f1.f0=4<;>by_cases c0:t.f2.f0=0<;>by_cases c3:t.f2.f0=3<;>simp[a1,a4,b1,b4,c0,c3,e02]
theorem basic_l (x:List TriS) (hx:x.length<4611686018427387904) {n:Nat} (hn:Fuel n) (hp: ∀ p ∈ x,p.lt n) (l0:RW) (k0:RW→Option R) (kr:Bool→Option R): ∀ (r:List TriS) (i m:Nat),x.drop i=r→r.length<m→
 scope_basic.l2 n m l0 (x.map eTri) (x.length:Int) (i:Int) k0 kr=bif r.all patOK then k0 l0 else kr false
 |r,i,0,hd,hm=>by omega
 | [],i,m+1,hd,hm=>by
  have:=len_drop hd;rw[scope_basic.l2];simp only[bifd];rw[if_neg (by omega)];rfl
 |c::r,i,m+1,hd,hm=>by
  obtain⟨hg,hi,hr,_⟩:=get_drop hd;rw[scope_basic.l2];simp only[bifn,bifd2,bifd,List.length_map,Int.toNat_natCast];rw[if_pos (by omega),if_pos (by omega),rd_tri hg,patOK_g c hn (hp c (List.mem_of_getElem? hg)),List.all_cons,wr_succ (by omega),basic_l x hx hn hp l0 k0 kr r (i+1) m hr (by simpa using hm)];cases patOK c<;>rfl
theorem basic_g (x:List TriS) {n:Nat} (hx:x.length<n) (hn:Fuel n) (hp: ∀ p ∈ x,p.lt n) (K:Bool→Option R):scope_basic.g n (x.map eTri) K=K (basicOK x):=by
 unfold scope_basic.g basicOK;rw[List.length_map];rw[show(0:Int)=((0:Nat):Int)from rfl,basic_l x (by have:=hn.2;omega) hn hp _ _ _ x 0 n rfl hx,List.length_map];cases x.all patOK with
 |false=>rfl
 |true=>rw[cond_true,Bool.true_and];congr 1;rw[decide_eq_decide];omega
/-! names in lists -/
def idxL (a : List UInt8) : List (List UInt8) → Nat → Int
  | [], _ => -1
  | h :: t, i => if a = h then (i : Int) else idxL a t (i + 1)
theorem idxL_ge (a:List UInt8): ∀ (l:List (List UInt8)) (i:Nat),decide (0≤idxL a l i)=l.contains a
 | [],i=>by simp[idxL]
 |h::t,i=>by
  unfold idxL;by_cases e:a=h
  ·simp[e]
  rw[if_neg e,idxL_ge a t (i+1),List.contains_cons,beq_eq_false_iff_ne.mpr e,Bool.false_or]
theorem index_l (x:List ByteArray) (hx:x.length<4611686018427387904) (a:ByteArray) (k0:Option R) (kr:Int→Option R) (hk:k0=kr (-1)): ∀ (r:List ByteArray) (i m:Nat),x.drop i=r→r.length<m→
 slices_Index_string_string.l2 m (srow x) a (x.length:Int) (i:Int) k0 kr=kr (idxL a.data.toList (TB r) i)
 |r,i,0,hd,hm=>by omega
 | [],i,m+1,hd,hm=>by
  have:=len_drop hd;rw[slices_Index_string_string.l2];simp only[bifd];rw[if_neg (by omega),hk];rfl
 |c::r,i,m+1,hd,hm=>by
  obtain⟨hg,hi,hr,_⟩:=get_drop hd;rw[slices_Index_string_string.l2];simp only[strEq_dec,bifd2,bifd,srow,List.length_map,Int.toNat_natCast];rw[if_pos (by omega),if_pos (by omega),show List.map (fun s=> [S s]) x=srow x from rfl,rd_s_ok hg,wr_succ (by omega),index_l x hx a k0 kr hk r (i+1) m hr (by simpa using hm)];rw[show TB (c::r)=c.data.toList::TB r from rfl,idxL];split<;>rfl
theorem contains_g (x:List ByteArray) {n:Nat} (hx:x.length<n) (hn:n<4611686018427387904) (a:ByteArray) (K:Bool→Option R):slices_Contains_string_string.g n (srow x) a K=K ((TB x).contains a.data.toList):=by
 unfold slices_Contains_string_string.g slices_Index_string_string.g;have h:=index_l x (by omega) a ((fun i1=>K (decide ((0:Int)≤i1))) (-1)) (fun i1=>K (decide ((0:Int)≤i1))) rfl x 0 n rfl hx;refine Eq.trans ?_ (h.trans ?_)
 ·rw[show(srow x).length=x.length by simp[srow]];rfl
 simp only[idxL_ge]
end Go.Proofs.YtcfoebkbahpnaaaGreat.Ab

-- PRINTED BY print.sh 35421559b90ae4d0a3588c463048766b98c2df88dd9212a6774a882060cdf62d: not written by this session
/-! ### 46. Values that share: what is only read, with the blocks it lies in (its footprint 'ok'): Foot, F (a row that is read), FK (an element's cells) -/
namespace Go.Proofs.YtcfoebkbahpnaaaGreatW.PrintWords
open Go.RowKit
/-- P holds in W and in every world that has W's blocks of ok. -/
def Foot (P : World → Prop) (W : World) (ok : Nat → Prop) : Prop := ∀ W' : World, (∀ k, ok k → k < W.heap.size → W'.heap[k]? = W.heap[k]?) → P W'
theorem heap_lt {W W1:World} {k:Nat} (h:W1.heap[k]? =W.heap[k]?) (hlt:k<W.heap.size):k<W1.heap.size:=by
 rw[Array.getElem?_eq_getElem hlt]at h;exact(Array.getElem?_eq_some_iff.1 h).1
namespace Foot
variable {P Q : World → Prop} {W W1 : World} {ok ok' : Nat → Prop}
theorem now (h:Foot P W ok):P W:=h W (fun _ _ _=>rfl)
theorem mono (h:Foot P W ok) (hok: ∀ k,ok k→ok' k):Foot P W ok':=fun W' hW=>h W' (fun k hk hlt=>hW k (hok k hk) hlt)
theorem bound (h:Foot P W ok):Foot P W (fun k=>ok k∧k<W.heap.size):=fun W' hW=>h W' (fun k hk hlt=>hW k ⟨hk,hlt⟩ hlt)
theorem step (h:Foot P W ok) (hm: ∀ k,ok k→k<W.heap.size→W1.heap[k]? =W.heap[k]?):Foot P W1 ok:=fun W' hW=>h W' (fun k hk hlt=>(hW k hk (heap_lt (hm k hk hlt) hlt)).trans (hm k hk hlt))
theorem imp (h:Foot P W ok) (hi: ∀ W',P W'→Q W'):Foot Q W ok:=fun W' hW=>hi W' (h W' hW)
/-- Moved, and still elder than what is new since W. -/
theorem old (h:Foot P W ok) (hb:Below W.heap.size W W1):Foot P W1 (fun k=>ok k∧k<W.heap.size):=(h.bound).step (fun k _ hlt=>hb.block k hlt)
end Foot
namespace Kd
/-- A row that is only read: what it leads to lies in ok. -/
def F {α : Type} (d : Kd α) (W : World) (ok : Nat → Prop) (A : Option Addr) (n : Nat) (xs : List α) : Prop := Foot (fun W => d.C W A n xs) W ok
/-- An element's cells: what they lead to lies in ok. -/
def FK {α : Type} (d : Kd α) (W : World) (ok : Nat → Prop) (x : α) (c : List Value) : Prop := Foot (fun W => d.K W x c) W ok
section
variable {α β : Type} {d : Kd α} {e base n n' cc g N : Nat} {ok ok' okp S : Nat → Prop} {w w0 w1 W W1 : World} {A A' : Option Addr} {u v v1 : Value} {xs : List α} {xs' : List β} {d' : Kd β} {x : α} {c : List Value}
end
end Kd
end Go.Proofs.YtcfoebkbahpnaaaGreatW.PrintWords

-- PRINTED BY print.sh 35421559b90ae4d0a3588c463048766b98c2df88dd9212a6774a882060cdf62d: not written by this session
/-! ### 47. N: a row of the call's own whose elements share (what they lead to is only read) -/
namespace Go.Proofs.YtcfoebkbahpnaaaGreatW.PrintWords
open Go.RowKit
namespace Kd
section
variable {α : Type} {d : Kd α} {e base n cc g : Nat} {ok ok' okp S : Nat → Prop} {w w1 W W1 : World} {A : Option Addr} {u v v1 : Value} {xs : List α} {x : α} {c : List Value}
/-- A row of elements (type e) of the call's own; what the elements lead to is only read, and is not this row. -/
def N {α : Type} (d : Kd α) (e : Nat) (w : World) (base : Nat) (ok : Nat → Prop) (v : Value) (xs : List α) : Prop :=
  (∀ k, v.ownBlock = some k → ok k) ∧ ∃ rows : List (List Value), rows.length = xs.length ∧ (raw d.sz).R e w base (fun k => some k = v.ownBlock) v rows ∧ ∀ (j : Nat) (x : α) (c : List Value), xs[j]? = some x → rows[j]? = some c → FK d w (fun k => ok k ∧ some k ≠ v.ownBlock) x c
end
end Kd
end Go.Proofs.YtcfoebkbahpnaaaGreatW.PrintWords

-- PRINTED BY print.sh 35421559b90ae4d0a3588c463048766b98c2df88dd9212a6774a882060cdf62d: not written by this session
/-! ### 48. N's events: append, a whole row appended, zeros appended, literals, make, stores, cuts, an element taken out -/
namespace Go.Proofs.YtcfoebkbahpnaaaGreatW.PrintWords
open Go.RowKit
namespace Kd
section
variable {α : Type} {d : Kd α} {e base n cap g : Nat} {ok ok' okp : Nat → Prop} {w w1 W : World} {v v1 : Value} {xs ys : List α}
end
section
variable {P : Program} {ops : Array Oper} {rest : List Oper} {o : Oper} {a : Act} {Q : Exit → Act → World → Prop} {Kc : Act → World → Prop} {α : Type}
end
end Kd
end Go.Proofs.YtcfoebkbahpnaaaGreatW.PrintWords

namespace Go.Proofs.YtcfoebkbahpnaaaGreat.Ab
open Go
theorem hE:EqOK G:=eqOK_of fun t h=>by
 have h:=(mem_iff t _).1 (show mem t [46,98,100]=true from h);simp only[List.mem_cons,List.not_mem_nil,or_false]at h;rcases h with rfl|rfl|rfl<;>exact⟨by kernel_rfl,by kernel_rfl,by kernel_rfl⟩
theorem hM:G.P.follows .mixedOrders=true:=by kernel_rfl
end Go.Proofs.YtcfoebkbahpnaaaGreat.Ab

set_option linter.unusedVariables false
namespace Go.Proofs.YtcfoebkbahpnaaaGreat.Ab
open Go
theorem ol25_4 (n:Nat) (hV:EnvOK G.P (E n (Hs n) 88)):LvOf G (E n (Hs n) 88) (G.fc 25) 0 n cl25_4 (sl25_4 n (Hs n)):=
 LvOf_r (lv:=(lv25 n (Hs n))) (L:= [0,1,5]) (bx:= []) hV (LvC_of (l:= []) (by kernel_rfl) (all_nil)) (by kernel_rfl) (by kernel_rfl) fun m F O K r hF h=>by
  obtain⟨x0,e0,k1'⟩:=lA_inv h;obtain⟨x1,e1,k2'⟩:=lA_inv k1';obtain⟨x2,e5,k3'⟩:=iA_inv k2';obtain⟨rfl,k4'⟩:=endL_inv k3';simp only[List.map]at hF;rw[e0,e1,e5]at hF;cases m with
  |zero=>exact nomatch (show(none:Option R)=some r from k4')
  |succ m=>exact⟨m,rfl,fun K=>by rw[hF];kernel_rfl⟩
theorem ok25 (n:Nat) (hV:EnvOK G.P (E n (Hs n) 88)):Ent G.P 25 (sp25 n (Hs n)):=fun args objs K r h=>by
 have h0:=h;obtain⟨a1',a2',rfl,k1'⟩:=hdL_inv h;obtain⟨x0,rfl,k2'⟩:=lA_inv k1';obtain⟨a3',a4',rfl,k3'⟩:=hdL_inv k2';obtain⟨x1,rfl,k4'⟩:=lA_inv k3';obtain⟨rfl,k5'⟩:=endL_inv k4';obtain⟨rfl,k6'⟩:=endL_inv k5';exact ent_of (lv:=(lv25 n (Hs n))) (n:=n) (fn:=Tryz.f25) hE hM hV ⟨by kernel_rfl,by kernel_rfl,⟨b25,by kernel_rfl,by kernel_rfl⟩,Nat.le_of_ble_eq_true (by kernel_rfl),by kernel_rfl⟩ (fun body hb=>by
  obtain rfl:b25=body:=congrArg (fun o=>o.getD Code.skip) hb;exact LvC_of (l:= [(false,cl25_4)]) (by kernel_rfl) (all_cons (PcL (by kernel_rfl) (ol25_4 n hV)) (all_nil))) (fun K=>by kernel_rfl) h0
theorem ol14_11 (n:Nat) (hV:EnvOK G.P (E n (Hs n) 89)):LvOf G (E n (Hs n) 89) (G.fc 14) 0 n cl14_11 (sl14_11 n (Hs n)):=
 LvOf_r (lv:=(lv14 n (Hs n))) (L:= [2,3,5,6]) (bx:= []) hV (LvC_of (l:= []) (by kernel_rfl) (all_nil)) (by kernel_rfl) (by kernel_rfl) fun m F O K r hF h=>by
  obtain⟨e2,k1'⟩:=pA_inv h;obtain⟨e3,k2'⟩:=pA_inv k1';obtain⟨x0,e5,k3'⟩:=iA_inv k2';obtain⟨x1,e6,k4'⟩:=iA_inv k3';obtain⟨o1',o2',rfl,k5'⟩:=hdL_inv k4';obtain⟨c3',rfl,k6'⟩:=soC_inv k5';obtain⟨c4',c5',rfl,k7'⟩:=hdL_inv k6';obtain⟨x2,e',k8'⟩:=iA_inv k7';cases e';obtain⟨c6',c7',rfl,k9'⟩:=hdL_inv k8';obtain⟨x3,e',k10'⟩:=lA_inv k9';cases e';obtain⟨c8',c9',rfl,k11'⟩:=hdL_inv k10';obtain⟨x4,e',k12'⟩:=lA_inv k11';cases e';obtain⟨c10',c11',rfl,k13'⟩:=hdL_inv k12';obtain⟨x5,e',k14'⟩:=lA_inv k13';cases e';obtain⟨c12',c13',rfl,k15'⟩:=hdL_inv k14';obtain⟨x6,e',k16'⟩:=lA_inv k15';cases e';obtain⟨c14',c15',rfl,k17'⟩:=hdL_inv k16';obtain⟨x7,e',k18'⟩:=sA_inv k17';cases e';obtain⟨c16',c17',rfl,k19'⟩:=hdL_inv k18';obtain⟨x8,e',k20'⟩:=bA_inv k19';cases e';obtain⟨rfl,k21'⟩:=endL_inv k20';obtain⟨o18',o19',rfl,k22'⟩:=hdL_inv k21';obtain⟨c20',rfl,k23'⟩:=soC_inv k22';obtain⟨c21',c22',rfl,k24'⟩:=hdL_inv k23';obtain⟨x9,e',k25'⟩:=iA_inv k24';cases e';obtain⟨c23',c24',rfl,k26'⟩:=hdL_inv k25';obtain⟨x10,e',k27'⟩:=lA_inv k26';cases e';obtain⟨c25',c26',rfl,k28'⟩:=hdL_inv k27';obtain⟨x11,e',k29'⟩:=lA_inv k28';cases e';obtain⟨c27',c28',rfl,k30'⟩:=hdL_inv k29';obtain⟨x12,e',k31'⟩:=lA_inv k30';cases e';obtain⟨c29',c30',rfl,k32'⟩:=hdL_inv k31';obtain⟨x13,e',k33'⟩:=lA_inv k32';cases e';obtain⟨c31',c32',rfl,k34'⟩:=hdL_inv k33';obtain⟨x14,e',k35'⟩:=sA_inv k34';cases e';obtain⟨c33',c34',rfl,k36'⟩:=hdL_inv k35';obtain⟨x15,e',k37'⟩:=bA_inv k36';cases e';obtain⟨rfl,k38'⟩:=endL_inv k37';obtain⟨rfl,k39'⟩:=endL_inv k38';simp only[List.map]at hF;rw[e2,e3,e5,e6]at hF;cases m with
  |zero=>exact nomatch (show(none:Option R)=some r from k39')
  |succ m=>exact⟨m,rfl,fun K=>by rw[hF];kernel_rfl⟩
theorem ol14_6 (n:Nat) (hV:EnvOK G.P (E n (Hs n) 89)):LvOf G (E n (Hs n) 89) (G.fc 14) 0 n cl14_6 (sl14_6 n (Hs n)):=
 LvOf_r (lv:=(lv14 n (Hs n))) (L:= [2,3,5]) (bx:= []) hV (LvC_of (l:= [(false,cl14_11)]) (by kernel_rfl) (all_cons (PcL (by kernel_rfl) (ol14_11 n hV)) (all_nil))) (by kernel_rfl) (by kernel_rfl) fun m F O K r hF h=>by
  obtain⟨e2,k1'⟩:=pA_inv h;obtain⟨e3,k2'⟩:=pA_inv k1';obtain⟨x0,e5,k3'⟩:=iA_inv k2';obtain⟨o1',o2',rfl,k4'⟩:=hdL_inv k3';obtain⟨c3',rfl,k5'⟩:=soC_inv k4';obtain⟨c4',c5',rfl,k6'⟩:=hdL_inv k5';obtain⟨x1,e',k7'⟩:=iA_inv k6';cases e';obtain⟨c6',c7',rfl,k8'⟩:=hdL_inv k7';obtain⟨x2,e',k9'⟩:=lA_inv k8';cases e';obtain⟨c8',c9',rfl,k10'⟩:=hdL_inv k9';obtain⟨x3,e',k11'⟩:=lA_inv k10';cases e';obtain⟨c10',c11',rfl,k12'⟩:=hdL_inv k11';obtain⟨x4,e',k13'⟩:=lA_inv k12';cases e';obtain⟨c12',c13',rfl,k14'⟩:=hdL_inv k13';obtain⟨x5,e',k15'⟩:=lA_inv k14';cases e';obtain⟨c14',c15',rfl,k16'⟩:=hdL_inv k15';obtain⟨x6,e',k17'⟩:=sA_inv k16';cases e';obtain⟨c16',c17',rfl,k18'⟩:=hdL_inv k17';obtain⟨x7,e',k19'⟩:=bA_inv k18';cases e';obtain⟨rfl,k20'⟩:=endL_inv k19';obtain⟨o18',o19',rfl,k21'⟩:=hdL_inv k20';obtain⟨c20',rfl,k22'⟩:=soC_inv k21';obtain⟨c21',c22',rfl,k23'⟩:=hdL_inv k22';obtain⟨x8,e',k24'⟩:=iA_inv k23';cases e';obtain⟨c23',c24',rfl,k25'⟩:=hdL_inv k24';obtain⟨x9,e',k26'⟩:=lA_inv k25';cases e';obtain⟨c25',c26',rfl,k27'⟩:=hdL_inv k26';obtain⟨x10,e',k28'⟩:=lA_inv k27';cases e';obtain⟨c27',c28',rfl,k29'⟩:=hdL_inv k28';obtain⟨x11,e',k30'⟩:=lA_inv k29';cases e';obtain⟨c29',c30',rfl,k31'⟩:=hdL_inv k30';obtain⟨x12,e',k32'⟩:=lA_inv k31';cases e';obtain⟨c31',c32',rfl,k33'⟩:=hdL_inv k32';obtain⟨x13,e',k34'⟩:=sA_inv k33';cases e';obtain⟨c33',c34',rfl,k35'⟩:=hdL_inv k34';obtain⟨x14,e',k36'⟩:=bA_inv k35';cases e';obtain⟨rfl,k37'⟩:=endL_inv k36';obtain⟨rfl,k38'⟩:=endL_inv k37';simp only[List.map]at hF;rw[e2,e3,e5]at hF;cases m with
  |zero=>exact nomatch (show(none:Option R)=some r from k38')
  |succ m=>exact⟨m,rfl,fun K=>by rw[hF];kernel_rfl⟩
theorem ok14 (n:Nat) (hV:EnvOK G.P (E n (Hs n) 89)):Ent G.P 14 (sp14 n (Hs n)):=fun args objs K r h=>by
 have h0:=h;obtain⟨a1',a2',rfl,k1'⟩:=hdL_inv h;obtain⟨c3',rfl,k2'⟩:=agA_inv k1';obtain⟨c4',c5',rfl,k3'⟩:=hdL_inv k2';obtain⟨x0,e',k4'⟩:=iA_inv k3';cases e';obtain⟨c6',c7',rfl,k5'⟩:=hdL_inv k4';obtain⟨x1,e',k6'⟩:=lA_inv k5';cases e';obtain⟨c8',c9',rfl,k7'⟩:=hdL_inv k6';obtain⟨x2,e',k8'⟩:=lA_inv k7';cases e';obtain⟨c10',c11',rfl,k9'⟩:=hdL_inv k8';obtain⟨x3,e',k10'⟩:=lA_inv k9';cases e';obtain⟨c12',c13',rfl,k11'⟩:=hdL_inv k10';obtain⟨x4,e',k12'⟩:=lA_inv k11';cases e';obtain⟨c14',c15',rfl,k13'⟩:=hdL_inv k12';obtain⟨x5,e',k14'⟩:=sA_inv k13';cases e';obtain⟨c16',c17',rfl,k15'⟩:=hdL_inv k14';obtain⟨x6,e',k16'⟩:=bA_inv k15';cases e';obtain⟨rfl,k17'⟩:=endL_inv k16';obtain⟨a18',a19',rfl,k18'⟩:=hdL_inv k17';obtain⟨c20',rfl,k19'⟩:=agA_inv k18';obtain⟨c21',c22',rfl,k20'⟩:=hdL_inv k19';obtain⟨x7,e',k21'⟩:=iA_inv k20';cases e';obtain⟨c23',c24',rfl,k22'⟩:=hdL_inv k21';obtain⟨x8,e',k23'⟩:=lA_inv k22';cases e';obtain⟨c25',c26',rfl,k24'⟩:=hdL_inv k23';obtain⟨x9,e',k25'⟩:=lA_inv k24';cases e';obtain⟨c27',c28',rfl,k26'⟩:=hdL_inv k25';obtain⟨x10,e',k27'⟩:=lA_inv k26';cases e';obtain⟨c29',c30',rfl,k28'⟩:=hdL_inv k27';obtain⟨x11,e',k29'⟩:=lA_inv k28';cases e';obtain⟨c31',c32',rfl,k30'⟩:=hdL_inv k29';obtain⟨x12,e',k31'⟩:=sA_inv k30';cases e';obtain⟨c33',c34',rfl,k32'⟩:=hdL_inv k31';obtain⟨x13,e',k33'⟩:=bA_inv k32';cases e';obtain⟨rfl,k34'⟩:=endL_inv k33';obtain⟨rfl,k35'⟩:=endL_inv k34';obtain⟨rfl,k36'⟩:=endL_inv k35'
 exact ent_of (lv:=(lv14 n (Hs n))) (n:=n) (fn:=Tryz.f14) hE hM hV ⟨by kernel_rfl,by kernel_rfl,⟨b14,by kernel_rfl,by kernel_rfl⟩,Nat.le_of_ble_eq_true (by kernel_rfl),by kernel_rfl⟩ (fun body hb=>by
  obtain rfl:b14=body:=congrArg (fun o=>o.getD Code.skip) hb;exact LvC_of (l:= [(false,cl14_6)]) (by kernel_rfl) (all_cons (PcL (by kernel_rfl) (ol14_6 n hV)) (all_nil))) (fun K=>by kernel_rfl) h0
theorem ol8_4 (n:Nat) (hV:EnvOK G.P (E n (Hs n) 90)):LvOf G (E n (Hs n) 90) (G.fc 8) 0 n cl8_4 (sl8_4 n (Hs n)):=
 LvOf_r (lv:=(lv8 n (Hs n))) (L:= [0,1,5]) (bx:= []) hV (LvC_of (l:= []) (by kernel_rfl) (all_nil)) (by kernel_rfl) (by kernel_rfl) fun m F O K r hF h=>by
  obtain⟨x0,e0,k1'⟩:=lA_inv h;obtain⟨x1,e1,k2'⟩:=lA_inv k1';obtain⟨x2,e5,k3'⟩:=iA_inv k2';obtain⟨rfl,k4'⟩:=endL_inv k3';simp only[List.map]at hF;rw[e0,e1,e5]at hF;cases m with
  |zero=>exact nomatch (show(none:Option R)=some r from k4')
  |succ m=>exact⟨m,rfl,fun K=>by rw[hF];kernel_rfl⟩
theorem ok8 (n:Nat) (hV:EnvOK G.P (E n (Hs n) 90)):Ent G.P 8 (sp8 n (Hs n)):=fun args objs K r h=>by
 have h0:=h;obtain⟨a1',a2',rfl,k1'⟩:=hdL_inv h;obtain⟨x0,rfl,k2'⟩:=lA_inv k1';obtain⟨a3',a4',rfl,k3'⟩:=hdL_inv k2';obtain⟨x1,rfl,k4'⟩:=lA_inv k3';obtain⟨rfl,k5'⟩:=endL_inv k4';obtain⟨rfl,k6'⟩:=endL_inv k5';exact ent_of (lv:=(lv8 n (Hs n))) (n:=n) (fn:=Tryz.f8) hE hM hV ⟨by kernel_rfl,by kernel_rfl,⟨b8,by kernel_rfl,by kernel_rfl⟩,Nat.le_of_ble_eq_true (by kernel_rfl),by kernel_rfl⟩ (fun body hb=>by
  obtain rfl:b8=body:=congrArg (fun o=>o.getD Code.skip) hb;exact LvC_of (l:= [(false,cl8_4)]) (by kernel_rfl) (all_cons (PcL (by kernel_rfl) (ol8_4 n hV)) (all_nil))) (fun K=>by kernel_rfl) h0
theorem ok3 (n:Nat) (hV:EnvOK G.P (E n (Hs n) 91)):Ent G.P 3 (sp3 n (Hs n)):=fun args objs K r h=>by
 have h0:=h;obtain⟨a1',a2',rfl,k1'⟩:=hdL_inv h;obtain⟨x0,rfl,k2'⟩:=lA_inv k1';obtain⟨rfl,k3'⟩:=endL_inv k2';obtain⟨rfl,k4'⟩:=endL_inv k3';exact ent_of (lv:=noLv) (n:=n) (fn:=Tryz.f3) hE hM hV ⟨by kernel_rfl,by kernel_rfl,⟨b3,by kernel_rfl,by kernel_rfl⟩,Nat.le_of_ble_eq_true (by kernel_rfl),by kernel_rfl⟩ (fun body hb=>by
  obtain rfl:b3=body:=congrArg (fun o=>o.getD Code.skip) hb;exact LvC_of (l:= []) (by kernel_rfl) (all_nil)) (fun K=>by kernel_rfl) h0
end Go.Proofs.YtcfoebkbahpnaaaGreat.Ab
