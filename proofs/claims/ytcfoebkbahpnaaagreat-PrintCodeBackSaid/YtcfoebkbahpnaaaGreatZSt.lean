import Derived.Test.YtcfoebkbahpnaaaGreatZAn
import Derived.Laws.StructEq
import Derived.Test.YtcfoebkbahpnaaaGreatZAa
import Derived.Test.YtcfoebkbahpnaaaGreatZWFoot
import Derived.Lib.IndexBytes
import Derived.Lib.CountLaws
import Derived.Lib.SplitLaws
import Derived.Lib.CutLaws
import Derived.Lib.AtoiAllCases
/- == on structs, for types whose cells are numbers, texts and truths. -/
set_option linter.unusedVariables false
set_option linter.unusedSimpArgs false
namespace Go.Proofs.YtcfoebkbahpnaaaGreat.Ab
open Go

def okFs (P : Program) (d : Nat) (ok : TypeId → Bool) : List Field → Nat → Bool
  | [], _ => true
  | f :: fs, off => decide (f.name ≠ "_") && Nat.beq f.offset off && (match sizeT P f.type, isAggT P f.type with | some m, some g => Nat.beq m (kindsT P d f.type).length && (g || Nat.beq m 1) && ok f.type && okFs P d ok fs (off + m) | _, _ => false)
def okT (P : Program) : Nat → TypeId → Bool
  | 0, _ => false
  | d + 1, t => match P.underlying t with
    | some (.int .i64) => true
    | some (.int .u8) => true
    | some .string => true
    | some .bool => true
    | some (.struct fs) => !P.stoodInHeld t && okFs P d (okT P d) fs.toList 0
    | _ => false

section
variable {P : Program} {D : Nat → Nat → Prop} {w : World}
def VR (P : Program) (D : Nat → Nat → Prop) (w : World) (t : TypeId) (xs : List DV) (v : Value) : Prop :=
  (isAggT P t = some true ∧ ∃ arr, v = .agg arr ∧ CV D w xs arr.toList) ∨ (isAggT P t = some false ∧ ∃ x, xs = [x] ∧ Dat D w x v)
theorem kinded_len: ∀ (ks:List CK) (xs:List DV),kinded ks xs=true→xs.length=ks.length
 | [],[],_=>rfl
 | [],_::_,h=>by simp[kinded]at h
 |_::_,[],h=>by simp[kinded]at h
 |k::ks,x::xs,h=>by simp only[kinded,Bool.and_eq_true]at h;simp[kinded_len ks xs h.2]
theorem kind1_dis1 {k:CK} {x:DV} (h:kind1 k x=true):x.dis1=x:=by
 unfold kind1 at h;split at h<;>first|rfl|cases h
theorem kinded_dis1: ∀ (ks:List CK) (xs:List DV),kinded ks xs=true→xs.map DV.dis1=xs
 | [],[],_=>rfl
 | [],_::_,h=>by simp[kinded]at h
 |_::_,[],h=>by simp[kinded]at h
 |k::ks,x::xs,h=>by simp only[kinded,Bool.and_eq_true]at h;rw[List.map_cons,kinded_dis1 ks xs h.2,kind1_dis1 h.1]
theorem kinded_app: ∀ (ks ms:List CK) (xs:List DV),kinded (ks++ms) xs=true→kinded ks (xs.take ks.length)=true∧kinded ms (xs.drop ks.length)=true
 | [],ms,xs,h=>⟨by simp[kinded],by simpa using h⟩
 |k::ks,ms,[],h=>by simp[kinded]at h
 |k::ks,ms,x::xs,h=>by
  simp only[List.cons_append,kinded,Bool.and_eq_true]at h;obtain⟨h1,h2⟩:=kinded_app ks ms xs h.2;exact⟨by simp only[List.length_cons,List.take_succ_cons,kinded,h.1,h1,Bool.and_self],by simpa using h2⟩
theorem k_i64 {x:DV} (h:kind1 .i64 x=true): ∃ n,x= .v (.int .i64 n):=by unfold kind1 at h;split at h<;>first|exact⟨_,rfl⟩|(rename_i e;cases e;done)|(cases h;done)
theorem k_u8 {x:DV} (h:kind1 .u8 x=true): ∃ n,x= .v (.int .u8 n):=by unfold kind1 at h;split at h<;>first|exact⟨_,rfl⟩|(rename_i e;cases e;done)|(cases h;done)
theorem k_str {x:DV} (h:kind1 .str x=true): ∃ n,x= .v (.string n):=by unfold kind1 at h;split at h<;>first|exact⟨_,rfl⟩|(rename_i e;cases e;done)|(cases h;done)
theorem k_bool {x:DV} (h:kind1 .bool x=true): ∃ n,x= .v (.bool n):=by unfold kind1 at h;split at h<;>first|exact⟨_,rfl⟩|(rename_i e;cases e;done)|(cases h;done)
theorem cell_eq {k:CK} {x y:DV} (hx:kind1 k x=true) (hy:kind1 k y=true): ∃ p:Bool,(∀ l m,eqCells (x::l) (y::m)=(eqCells l m).map (p && ·)):=by
 unfold kind1 at hx;split at hx
 ·unfold kind1 at hy;split at hy<;>first|exact⟨_,fun l m=>rfl⟩|(rename_i e;cases e;done)|(rename_i e _;cases e;done)|(rename_i e _ _;cases e;done)|(cases hy;done)
 ·unfold kind1 at hy;split at hy<;>first|exact⟨_,fun l m=>rfl⟩|(rename_i e;cases e;done)|(rename_i e _;cases e;done)|(rename_i e _ _;cases e;done)|(cases hy;done)
 ·unfold kind1 at hy;split at hy<;>first|exact⟨_,fun l m=>rfl⟩|(rename_i e;cases e;done)|(rename_i e _;cases e;done)|(rename_i e _ _;cases e;done)|(cases hy;done)
 ·unfold kind1 at hy;split at hy<;>first|exact⟨_,fun l m=>rfl⟩|(rename_i e;cases e;done)|(rename_i e _;cases e;done)|(rename_i e _ _;cases e;done)|(cases hy;done)
 cases hx
theorem eqCells_split: ∀ (ks:List CK) (xs ys us vs:List DV) (b:Bool),kinded ks xs=true→kinded ks ys=true→eqCells (xs++us) (ys++vs)=some b→ ∃ b1 b2,eqCells xs ys=some b1∧eqCells us vs=some b2∧b=(b1 && b2)
 | [],[],[],us,vs,b,_,_,h=>⟨true,b,rfl,h,by simp⟩
 | [],_::_,_,_,_,_,hx,_,_=>by simp[kinded]at hx
 | [],[],_::_,_,_,_,_,hy,_=>by simp[kinded]at hy
 |_::_,[],_,_,_,_,hx,_,_=>by simp[kinded]at hx
 |_::_,_::_,[],_,_,_,_,hy,_=>by simp[kinded]at hy
 |k::ks,x::xs,y::ys,us,vs,b,hx,hy,h=>by
  simp only[kinded,Bool.and_eq_true]at hx hy;obtain⟨p,hp⟩:=cell_eq hx.1 hy.1;rw[List.cons_append,List.cons_append,hp,Option.map_eq_some_iff]at h;obtain⟨c,hc,rfl⟩:=h;obtain⟨b1,b2,h1,h2,rfl⟩:=eqCells_split ks xs ys us vs c hx.2 hy.2 hc;exact⟨p && b1,b2,by rw[hp,h1];rfl,h2,by simp[Bool.and_assoc]⟩
theorem okFs_run {d:Nat} {ok:TypeId→Bool} {e:Nat} (hok: ∀ t,ok t=true→ ∀ xs ys u v b,kinded (kindsT P d t) xs=true→kinded (kindsT P d t) ys=true→eqCells xs ys=some b→VR P D w t xs u→VR P D w t ys v→(Op.equalIn e t u v).run P w= .ok b w) {xs ys:List DV} {a c:Array Value}
 (ha:CV D w xs a.toList) (hc:CV D w ys c.toList): ∀ (fs:List Field) (off:Nat) (b:Bool),okFs P d ok fs off=true→kinded (fs.foldr (fun f l=>kindsT P d f.type++l) []) (xs.drop off)=true→kinded (fs.foldr (fun f l=>kindsT P d f.type++l) []) (ys.drop off)=true→
  eqCells (xs.drop off) (ys.drop off)=some b→(Op.eqFields e a c fs).run P w= .ok b w
 | [],off,b,h,hx,hy,he=>by
  cases hxd:xs.drop off with
  |cons x r=>rw[hxd]at hx;simp[kinded]at hx
  |nil=>
   cases hyd:ys.drop off with
   |cons x r=>rw[hyd]at hy;simp[kinded]at hy
   |nil=>rw[hxd,hyd]at he;cases he;rfl
 |f::fs,off,b,h,hx,hy,he=>by
  simp only[okFs,Bool.and_eq_true]at h;obtain⟨⟨hn,ho⟩,h⟩:=h;have ho:=Nat.eq_of_beq_eq_true ho;split at h;case h_2=>cases h
  rename_i m g hm hg;simp only[Bool.and_eq_true]at h;obtain⟨⟨⟨hml,h0⟩,h1⟩,h2⟩:=h;have hml:=Nat.eq_of_beq_eq_true hml;rw[List.foldr_cons]at hx hy;obtain⟨kx1,kx2⟩:=kinded_app _ _ _ hx;obtain⟨ky1,ky2⟩:=kinded_app _ _ _ hy;rw[← hml]at kx1 kx2 ky1 ky2;rw[List.drop_drop]at kx2 ky2;have ex:xs.drop off=(xs.drop off).take m++xs.drop (off+m):=(by rw[← List.drop_drop];exact(List.take_append_drop m _).symm);have ey:ys.drop off=(ys.drop off).take m++ys.drop (off+m):=(by rw[← List.drop_drop];exact(List.take_append_drop m _).symm);rw[ex,ey]at he;obtain⟨b1,b2,he1,he2,rfl⟩:=eqCells_split _ _ _ _ _ _ kx1 ky1 he;have part1: ∀ {zs:List DV} {arr:Array Value},CV D w zs arr.toList→kinded (kindsT P d f.type) ((zs.drop off).take m)=true→
   ∃ v,(part f.type arr f.offset).run P w= .ok v w∧VR P D w f.type ((zs.drop off).take m) v:=by
   intro zs arr hz hk;have hl:=kinded_len _ _ hk;have hd:=kinded_dis1 _ _ hk;rw[ho];cases g with
   |true=>
    have hp:partA P f.type (zs.drop off)=some (.ag ((zs.drop off).take m)):=by
     unfold partA;rw[hg,hm];simp only;rw[hd,Nat.ble_eq_true_of_le (by rw[List.length_take]at hl;omega)];rfl
    obtain⟨v,g1,g2,_⟩:=part_ok (P:=P) hz hp;refine⟨v,g1,.inl ⟨hg,?_⟩⟩;cases g2 with
    |ag hl ho h=>exact⟨_,rfl,Dat.toCV (.ag hl ho h)⟩
   |false=>
    have hm1:m=1:=(by simpa using h0);cases hzd:zs.drop off with
    |nil=>rw[hzd]at hl;simp at hl;omega
    |cons x r=>
     have hp:partA P f.type (zs.drop off)=some x.dis1:=(by unfold partA;rw[hzd];simp only[hg,hm,hm1]);obtain⟨v,g1,g2,_⟩:=part_ok (P:=P) hz hp;rw[hzd,hm1]at hd;have hx:x.dis1=x:=(by simpa using hd);exact⟨v,g1,.inr ⟨hg,x,by rw[hm1];rfl,hx ▸ g2⟩⟩
  obtain⟨u,g1,g2⟩:=part1 ha kx1;obtain⟨v,g3,g4⟩:=part1 hc ky1;have hr:=hok f.type h1 _ _ u v b1 kx1 ky1 he1 g2 g4;simp only[Op.eqFields];rw[if_pos (of_decide_eq_true hn)];simp only[Sem.run_bind,g1,Result.andThen_ok,g3,hr];cases b1
  ·simp
  simp only[Bool.not_true,Bool.false_eq_true,if_false,Bool.true_and];exact okFs_run hok ha hc fs (off+m) b2 h2 kx2 ky2 he2
theorem okT_run: ∀ (d:Nat) (t:TypeId),okT P d t=true→ ∀ (e:Nat),d≤e→ ∀ (xs ys:List DV) (u v:Value) (b:Bool),kinded (kindsT P d t) xs=true→kinded (kindsT P d t) ys=true→eqCells xs ys=some b→VR P D w t xs u→VR P D w t ys v→(Op.equalIn e t u v).run P w= .ok b w
 |0,t,h,e,hde,xs,ys,u,v,b,hx,hy,he,hu,hv=>by cases h
 |d+1,t,h,0,hde,xs,ys,u,v,b,hx,hy,he,hu,hv=>by omega
 |d+1,t,h,e+1,hde,xs,ys,u,v,b,hx,hy,he,hu,hv=>by
  have sc: ∀ ds k,P.underlying t=some ds→(∀ fs,ds≠ .struct fs)→(∀ l x,ds≠ .array l x)→kindT P t=k→ ∃ x y,xs= [x]∧ys= [y]∧Dat D w x u∧Dat D w y v∧kind1 k x=true∧kind1 k y=true:=by
   intro ds k hds h1 h2 hk;have hf:isAggT P t=some false:=by
    unfold isAggT;rw[hds];cases ds<;>first|rfl|exact absurd rfl (h1 _)|exact absurd rfl (h2 _ _)
   have hks:kindsT P (d+1) t= [k]:=by
    unfold kindsT;rw[hds];cases ds<;>first|exact absurd rfl (h1 _)|exact absurd rfl (h2 _ _)|(simp only;rw[hk])
   rw[hks]at hx hy;rcases hu with ⟨e1,_⟩|⟨_,x,rfl,hxu⟩
   ·rw[hf]at e1;cases e1
   rcases hv with ⟨e1,_⟩|⟨_,y,rfl,hyv⟩
   ·rw[hf]at e1;cases e1
   simp[kinded]at hx hy;exact⟨x,y,rfl,rfl,hxu,hyv,hx,hy⟩
  unfold okT at h;split at h
  ·rename_i hk;obtain⟨x,y,rfl,rfl,hxu,hyv,k1,k2⟩:=sc _ .i64 hk (fun _=>by simp) (fun _ _=>by simp) (by unfold kindT;rw[hk]);obtain⟨a,rfl⟩:=k_i64 k1;obtain⟨c,rfl⟩:=k_i64 k2;cases hxu.v_inv;cases hyv.v_inv
   have:b=decide (a=c):=by
    have:eqCells [DV.v (.int .i64 a)] [.v (.int .i64 c)]=some (decide (a=c)):=(by simp[eqCells]);rw[this]at he;cases he;rfl
   subst this;simp only[Op.equalIn,Sem.run_bind,underlying_run hk,Result.andThen_ok,if_true,Sem.run_pure];rfl
  ·rename_i hk;obtain⟨x,y,rfl,rfl,hxu,hyv,k1,k2⟩:=sc _ .u8 hk (fun _=>by simp) (fun _ _=>by simp) (by unfold kindT;rw[hk]);obtain⟨a,rfl⟩:=k_u8 k1;obtain⟨c,rfl⟩:=k_u8 k2;cases hxu.v_inv;cases hyv.v_inv
   have:b=decide (a=c):=by
    have:eqCells [DV.v (.int .u8 a)] [.v (.int .u8 c)]=some (decide (a=c)):=(by simp[eqCells]);rw[this]at he;cases he;rfl
   subst this;simp only[Op.equalIn,Sem.run_bind,underlying_run hk,Result.andThen_ok,if_true,Sem.run_pure];rfl
  ·rename_i hk;obtain⟨x,y,rfl,rfl,hxu,hyv,k1,k2⟩:=sc _ .str hk (fun _=>by simp) (fun _ _=>by simp) (by unfold kindT;rw[hk]);obtain⟨a,rfl⟩:=k_str k1;obtain⟨c,rfl⟩:=k_str k2;cases hxu.v_inv;cases hyv.v_inv
   have:b=strEq a c:=by
    have:eqCells [DV.v (.string a)] [.v (.string c)]=some (strEq a c):=(by simp[eqCells]);rw[this]at he;cases he;rfl
   subst this;rw[strEq_beq];simp only[Op.equalIn,Sem.run_bind,underlying_run hk,Result.andThen_ok,Sem.run_pure]
  ·rename_i hk;obtain⟨x,y,rfl,rfl,hxu,hyv,k1,k2⟩:=sc _ .bool hk (fun _=>by simp) (fun _ _=>by simp) (by unfold kindT;rw[hk]);obtain⟨a,rfl⟩:=k_bool k1;obtain⟨c,rfl⟩:=k_bool k2;cases hxu.v_inv;cases hyv.v_inv
   have:b=(a==c):=by
    have:eqCells [DV.v (.bool a)] [.v (.bool c)]=some (a==c):=(by simp[eqCells]);rw[this]at he;cases he;rfl
   subst this;simp only[Op.equalIn,Sem.run_bind,underlying_run hk,Result.andThen_ok,Sem.run_pure]
  ·rename_i fs hfs;rw[Bool.and_eq_true]at h;have hst:P.stoodInHeld t=false:=(by simpa using h.1);have hag:isAggT P t=some true:=(by unfold isAggT;rw[hfs]);have hf:P.fieldsOf t=fs:=(by unfold Program.fieldsOf;rw[hfs]);have hks:kindsT P (d+1) t=fs.toList.foldr (fun f l=>kindsT P d f.type++l) []:=(by rw[kindsT,hfs]);rw[hks]at hx hy;rcases hu with ⟨_,a,rfl,ha⟩|⟨e1,_⟩
   ·rcases hv with ⟨_,c,rfl,hc⟩|⟨e1,_⟩
    ·rw[run_equalIn_struct w e t a c (by rw[hf];exact hfs) hst,hf];exact okFs_run (d:=d) (fun t h xs ys u v b hx hy he hu hv=>okT_run d t h e (by omega) xs ys u v b hx hy he hu hv) ha hc _ 0 b h.2 (by simpa using hx) (by simpa using hy) (by simpa using he)
    rw[hag]at e1;cases e1
   rw[hag]at e1;cases e1
  cases h
theorem eqOK_of {G:Cfg} (h: ∀ t,G.eqs t=true→okT G.P 8 t=true∧isAggT G.P t=some true∧G.P.eqGuardType G.P.depth t=false):EqOK G where
 eq t ht xs ys a c b D w hx hy he ha hc:=okT_run 8 t (h t ht).1 Op.maxDepth (by decide) xs ys _ _ b hx hy he (.inl ⟨(h t ht).2.1,a,rfl,ha⟩) (.inl ⟨(h t ht).2.1,c,rfl,hc⟩)
 guard t ht:=(h t ht).2.2
end
end Go.Proofs.YtcfoebkbahpnaaaGreat.Ab

/- Words for what functions come to: short names, readings of slots and arguments. -/
set_option linter.unusedVariables false
namespace Go.Proofs.YtcfoebkbahpnaaaGreat.Ab
open Go
abbrev RW := List (List DV)
abbrev I (n : Int) : DV := .v (.int .i64 n)
abbrev U (n : Int) : DV := .v (.int .u8 n)
abbrev S (s : ByteArray) : DV := .v (.string s)
abbrev B (b : Bool) : DV := .v (.bool b)
abbrev NIL : DV := .v (.slice none 0 0)
def wr (n : Int) : Int := IntKind.i64.wrap n
def ch (s : ByteArray) (i : Int) : Int := ((s.data.toList.getD i.toNat 0).toNat : Int)
def catC (a b : ByteArray) (K : ByteArray → Option R) : Option R := bif Nat.ble (a.size + b.size) 9223372036854775807 then K (a ++ b) else none
def bytesC (r : RW) (K : ByteArray → Option R) : Option R := match bytesOf r with | some l => K ⟨l.toArray⟩ | none => none
def appC (by_ : Nat) (r r' : RW) (K : RW → Option R) : Option R :=
  bif Nat.ble ((r.length + r'.length) * by_) 140737488355328 && Nat.ble (r.length + r'.length) 4611686018427387904 then K (r ++ r'.map (·.map DV.dis1)) else none

def iA (a : AV) (K : Int → Option R) : Option R := match a with | .d (.v (.int .i64 n)) => K n | _ => none
def uA (a : AV) (K : Int → Option R) : Option R := match a with | .d (.v (.int .u8 n)) => K n | _ => none
def sA (a : AV) (K : ByteArray → Option R) : Option R := match a with | .d (.v (.string s)) => K s | _ => none
def bA (a : AV) (K : Bool → Option R) : Option R := match a with | .d (.v (.bool b)) => K b | _ => none
def lA (own : Bool) (n : Nat) (a : AV) (K : RW → Option R) : Option R :=
  match a with | .d (.sl o m r) => bif (bif o then own else !own) && Nat.beq m n then K r else none | _ => none
def agA (a : AV) (K : List DV → Option R) : Option R := match a with | .d (.ag cs) => K cs | _ => none
def pA (k off : Nat) (a : AV) (K : Option R) : Option R := match a with | .pt k' off' => bif Nat.beq k' k && Nat.beq off' off then K else none | _ => none
def hdL {α : Type} (l : List α) (K : α → List α → Option R) : Option R := match l with | x :: r => K x r | [] => none
def endL {α : Type} (l : List α) (K : Option R) : Option R := match l with | [] => K | _ => none
def soC (o : Option (List DV)) (K : List DV → Option R) : Option R := match o with | some c => K c | none => none
def noC (o : Option (List DV)) (K : Option R) : Option R := match o with | none => K | _ => none

abbrev Spec := List AV → List (List DV) → (R → Option R) → Option R
def envL : List (Nat × Spec) → Env
  | [] => fun _ _ _ _ => none
  | (m, s) :: r => fun f => bif Nat.beq m f then s else envL r f

def at_ : List Nat → Code → Code
  | 0 :: r, .seq a _ => at_ r a
  | _ :: r, .seq _ b => at_ r b
  | 0 :: r, .cond _ a _ => at_ r a
  | _ :: r, .cond _ _ b => at_ r b
  | _ :: r, .block _ a => at_ r a
  | _ :: r, .loop a => at_ r a
  | _ :: r, .scope a => at_ r a
  | _, c => c
/-- The parts of a code of which something is said. -/
def pcs (k J : Nat → Bool) : Code → List (Bool × Code)
  | .seq a b => pcs k J a ++ (bif J (firstReg b) && k (jkey b) then [(true, b)] else pcs k J b)
  | .cond _ a b => pcs k J a ++ pcs k J b
  | .block _ a => pcs k J a
  | .scope a => pcs k J a
  | .loop a => bif k (firstReg a) then [(false, a)] else pcs k J a
  | _ => []
end Go.Proofs.YtcfoebkbahpnaaaGreat.Ab

-- PRINTED BY print.sh 35421559b90ae4d0a3588c463048766b98c2df88dd9212a6774a882060cdf62d: not written by this session
/-! ### 45. What a call keeps: all but the blocks of S (the rows that it was given to write) and what is new since -/
namespace Go.Proofs.YtcfoebkbahpnaaaGreatW.PrintWords
open Go.RowKit
def Kept (w W : World) (S : Nat → Prop) : Prop := w.heap.size ≤ W.heap.size ∧ ∀ i, i < w.heap.size → ¬ S i → W.heap[i]? = w.heap[i]?
section
variable {w W W2 : World} {S S2 S' : Nat → Prop}
theorem Kept.refl (w:World) (S:Nat→Prop):Kept w w S:=⟨Nat.le_refl _,fun _ _ _=>rfl⟩
theorem Kept.of_below (h:Below w.heap.size w W) (S:Nat→Prop):Kept w W S:=⟨h.size,fun i hi _=>h.block i hi⟩
theorem Kept.mono (h:Kept w W S) (hs: ∀ k,S k→S' k):Kept w W S':=⟨h.1,fun i hi hn=>h.2 i hi (fun hk=>hn (hs i hk))⟩
theorem Kept.then_ (h:Kept w W S) (k:Kept W W2 S2) (hs: ∀ k,S2 k→S k∨w.heap.size≤k):Kept w W2 S:=
 ⟨Nat.le_trans h.1 k.1,fun i hi hn=>(k.2 i (Nat.lt_of_lt_of_le hi h.1) (fun h2=>(hs i h2).elim hn (fun h3=>by omega))).trans (h.2 i hi hn)⟩
theorem Kept.below (h:Kept w W S) (hb:Below W.heap.size W W2):Kept w W2 S:=h.then_ (Kept.of_below hb (fun _=>False)) (fun _ hk=>hk.elim)
theorem Kept.alloc (h:Kept w W S) (o:Obj):Kept w (W.alloc o) S:=h.below (below_alloc (Below.refl _ _) o)
theorem Kept.drew (h:Kept w W S):Kept w W.drew S:=h
theorem Kept.drewN (h:Kept w W S) (m:Nat):Kept w (W.drewN m) S:=h
theorem Kept.setCell (h:Kept w W S) {p:Addr} (hp:S p.block∨w.heap.size≤p.block) (u:Value):Kept w (W.setCell p u) S:=
 h.then_ (S2:=fun k=>k=p.block) ⟨by simp[World.setCell],fun i _ hn=>Below.heap_setCell W p u i hn⟩ (fun k hk=>by rw[hk];exact hp)
end
namespace Kd
section
variable {α : Type} {d : Kd α} {e base n c : Nat} {ok oki S S2 : Nat → Prop} {w w0 W W1 W2 : World} {v : Value} {A : Option Addr} {xs : List α} {i : Int} {cs : List Value}
end
end Kd
end Go.Proofs.YtcfoebkbahpnaaaGreatW.PrintWords

/- The library's words (strings.Split, Cut, Join, strconv.Itoa, Atoi) as the plain lists of bytes that Sp.lean speaks of. -/
namespace Go.Proofs.YtcfoebkbahpnaaaGreat
open Go.Lib

/-! ### digits -/
def dd (n : Nat) : List UInt8 :=
  if n < 10 then [UInt8.ofNat (48 + n)]
  else if n < 100 then [UInt8.ofNat (48 + n / 10), UInt8.ofNat (48 + n % 10)]
  else if n < 1000 then [UInt8.ofNat (48 + n / 100), UInt8.ofNat (48 + n / 10 % 10), UInt8.ofNat (48 + n % 10)]
  else [UInt8.ofNat (48 + n / 1000), UInt8.ofNat (48 + n / 100 % 10), UInt8.ofNat (48 + n / 10 % 10), UInt8.ofNat (48 + n % 10)]
end Go.Proofs.YtcfoebkbahpnaaaGreat

-- PRINTED BY print.sh 35421559b90ae4d0a3588c463048766b98c2df88dd9212a6774a882060cdf62d: not written by this session
/-! ### 42. append(v, make([]T, n)...): the operation comes as_ append with the number in the second place -/
namespace Go.Proofs.YtcfoebkbahpnaaaGreatW.PrintWords
open Go.RowKit
section
variable {P : Program}
end
namespace Kd
section
variable {P : Program} {ops : Array Oper} {rest : List Oper} {o : Oper} {a : Act} {Q : Exit → Act → World → Prop} {Kc : Act → World → Prop} {α : Type}
end
/-! #### the same for rows whose elements lie apart -/
section
variable {α : Type} {d : Kd α} {e : Nat} {w : World} {base : Nat} {ok : Nat → Prop} {v : Value} {xs : List α}
end
section
variable {P : Program} {ops : Array Oper} {rest : List Oper} {o : Oper} {a : Act} {Q : Exit → Act → World → Prop} {Kc : Act → World → Prop} {α : Type}
end
end Kd
end Go.Proofs.YtcfoebkbahpnaaaGreatW.PrintWords

/- Plain terms and their texts: what is right, what is written, what is read, and that what is written reads back. No program stands in it. -/
namespace Go.Proofs.YtcfoebkbahpnaaaGreat

def isLet (b : UInt8) : Bool := (decide (97 ≤ b.toNat) && decide (b.toNat ≤ 122)) || (decide (65 ≤ b.toNat) && decide (b.toNat ≤ 90))
def isDig (b : UInt8) : Bool := decide (48 ≤ b.toNat) && decide (b.toNat ≤ 57)
def nameB (b : UInt8) : Bool := isLet b || isDig b || b.toNat == 95
def iriC (b : UInt8) : Bool := decide (33 ≤ b.toNat) && decide (b.toNat ≤ 126) && !([60, 62, 34, 123, 125, 124, 94, 96, 92].contains b.toNat)
def textB (b : UInt8) : Bool := (decide (32 ≤ b.toNat) && decide (b.toNat ≤ 126)) || b.toNat == 10 || b.toNat == 9
def langB (b : UInt8) : Bool := decide (97 ≤ b.toNat) && decide (b.toNat ≤ 122)
def okName : List UInt8 → Bool
  | [] => false
  | c :: r => isLet c && r.all nameB && decide (r.length ≤ 31)
def okIri (l : List UInt8) : Bool := !l.isEmpty && decide (l.length ≤ 4096) && l.all iriC
def okText (l : List UInt8) : Bool := decide (l.length ≤ 4096) && l.all textB
def okLang (l : List UInt8) : Bool := !l.isEmpty && decide (l.length ≤ 8) && l.all langB
/-- a term: its kind, its text, its type, its language -/
structure Tm where
  k : Int
  x : List UInt8
  ty : List UInt8
  la : List UInt8
deriving DecidableEq
def okTm (t : Tm) : Bool :=
  if t.k = 2 then okText t.x && (t.ty.isEmpty || okIri t.ty) && (t.la.isEmpty || (t.ty.isEmpty && okLang t.la))
  else t.ty.isEmpty && t.la.isEmpty && (if t.k = 0 then t.x.isEmpty else if t.k = 1 then okIri t.x else if t.k = 3 ∨ t.k = 4 then okName t.x else false)

/-! ### writing -/
def escB (b : UInt8) : List UInt8 := if b.toNat = 34 then [92, 34] else if b.toNat = 92 then [92, 92] else if b.toNat = 10 then [92, 110] else if b.toNat = 9 then [92, 116] else [b]
def esc (l : List UInt8) : List UInt8 := l.flatMap escB
def tail2 (t : Tm) : List UInt8 := (if t.ty.isEmpty then [] else 94 :: 94 :: 60 :: (t.ty ++ [62])) ++ (if t.la.isEmpty then [] else 64 :: t.la)
def ttext (t : Tm) : List UInt8 :=
  if t.k = 1 then 60 :: (t.x ++ [62]) else if t.k = 3 then 95 :: 58 :: t.x else if t.k = 4 then 63 :: t.x
  else if t.k = 2 then 34 :: (esc t.x ++ 34 :: tail2 t) else []

/-! ### reading -/
def nameN : List UInt8 → Nat
  | [] => 0
  | c :: r => if isLet c then 1 + ((r.take 31).takeWhile nameB).length else 0
/-! ### what is written reads back -/
theorem all_not_mem {p:UInt8→Bool} {l:List UInt8} {c:UInt8} (h:l.all p=true) (hc:p c=false):c ∉ l:=by
 intro hm;have:=List.all_eq_true.1 h c hm;rw[hc]at this;cases this
theorem okIri_all {l:List UInt8} (h:okIri l=true):l.all iriC=true:=by
 unfold okIri at h;simp only[Bool.and_eq_true]at h;exact h.2
theorem okName_nameN {l:List UInt8} (h:okName l=true):nameN l=l.length∧0<l.length:=by
 unfold okName at h;split at h
 ·cases h
 rename_i c r;simp only[Bool.and_eq_true,decide_eq_true_eq]at h;rw[show nameN (c::r)=if isLet c then 1+((r.take 31).takeWhile nameB).length else 0 from rfl,if_pos h.1.1,List.take_of_length_le h.2];have:r.takeWhile nameB=r:=by
  have:=h.1.2;rw[List.all_eq_true]at this;rw[← List.append_nil r,List.takeWhile_append_of_pos (by simpa using this)];simp
 rw[this,List.length_cons];omega
theorem takeWhile_all (p:UInt8→Bool): ∀ l:List UInt8,(l.takeWhile p).all p=true
 | []=>rfl
 |b::l=>by
  by_cases h:p b=true
  ·rw[List.takeWhile_cons_of_pos h,List.all_cons,h,takeWhile_all p l];rfl
  rw[List.takeWhile_cons_of_neg h];rfl
theorem take_of_prefix {a l:List UInt8} (h:a<+:l):l.take a.length=a:=by
 obtain⟨t,rfl⟩:=h;simp
theorem nameN_ok {l:List UInt8} (h:0<nameN l):okName (l.take (nameN l))=true:=by
 unfold nameN at h ⊢;split
 ·rename_i l0;simp at h
 rename_i c r;by_cases hc:isLet c=true
 ·rw[if_pos hc,Nat.add_comm,List.take_succ_cons];have hp:(r.take 31).takeWhile nameB<+:r:=(List.takeWhile_prefix nameB).trans (List.take_prefix 31 r);rw[take_of_prefix hp,okName,hc,takeWhile_all];have h1:=(List.takeWhile_prefix nameB (l:=r.take 31)).length_le;rw[List.length_take]at h1;simp;omega
 simp only at h;rw[if_neg hc]at h;omega
theorem okLang_all {l:List UInt8} (h:okLang l=true):l.all langB=true:=by
 unfold okLang at h;simp only[Bool.and_eq_true]at h;exact h.2
theorem isEmpty_nil {l:List UInt8} (h:l.isEmpty=true):l= []:=List.isEmpty_iff.1 h
end Go.Proofs.YtcfoebkbahpnaaaGreat
