import Derived.Test.YtcfoebkbahpnaaaGreatZF0
import Derived.Test.YtcfoebkbahpnaaaGreatZF1
import Derived.Test.YtcfoebkbahpnaaaGreatZMp
import Derived.Test.YtcfoebkbahpnaaaGreatZHi
import Derived.Test.YtcfoebkbahpnaaaGreatZF5
import Derived.Test.YtcfoebkbahpnaaaGreatZLf
import Derived.Test.YtcfoebkbahpnaaaGreatZF7
import Derived.Test.YtcfoebkbahpnaaaGreatZHb
import Derived.Test.YtcfoebkbahpnaaaGreatZF9
import Derived.Test.YtcfoebkbahpnaaaGreatZHs
/- What is said of the functions is so. -/
namespace Go.Proofs.YtcfoebkbahpnaaaGreat.Ab
open Go Go.Proofs.YtcfoebkbahpnaaaGreat
theorem v0 (n:Nat):EnvOK G.P (E n (Hs n) 0):=EnvOK.nil
theorem v1 (n:Nat):EnvOK G.P (E n (Hs n) 1):=EnvOK.take (by kernel_rfl) (v0 n) (ok16 n (v0 n))
theorem v2 (n:Nat):EnvOK G.P (E n (Hs n) 2):=EnvOK.take (by kernel_rfl) (v1 n) (ok94 n (v1 n))
theorem v3 (n:Nat):EnvOK G.P (E n (Hs n) 3):=EnvOK.take (by kernel_rfl) (v2 n) (Hd.h74 n)
theorem v4 (n:Nat):EnvOK G.P (E n (Hs n) 4):=EnvOK.take (by kernel_rfl) (v3 n) (ok92 n (v3 n))
theorem v5 (n:Nat):EnvOK G.P (E n (Hs n) 5):=EnvOK.take (by kernel_rfl) (v4 n) (ok93 n (v4 n))
theorem v6 (n:Nat):EnvOK G.P (E n (Hs n) 6):=EnvOK.take (by kernel_rfl) (v5 n) (ok73 n (v5 n))
theorem v7 (n:Nat):EnvOK G.P (E n (Hs n) 7):=EnvOK.take (by kernel_rfl) (v6 n) (ok49 n (v6 n))
theorem v8 (n:Nat):EnvOK G.P (E n (Hs n) 8):=EnvOK.take (by kernel_rfl) (v7 n) (ok75 n (v7 n))
theorem v9 (n:Nat):EnvOK G.P (E n (Hs n) 9):=EnvOK.take (by kernel_rfl) (v8 n) (ok76 n (v8 n))
theorem v10 (n:Nat):EnvOK G.P (E n (Hs n) 10):=EnvOK.take (by kernel_rfl) (v9 n) (ok50 n (v9 n))
theorem v11 (n:Nat):EnvOK G.P (E n (Hs n) 11):=EnvOK.take (by kernel_rfl) (v10 n) (ok56 n (v10 n))
theorem v12 (n:Nat):EnvOK G.P (E n (Hs n) 12):=EnvOK.take (by kernel_rfl) (v11 n) (ok71 n (v11 n))
theorem v13 (n:Nat):EnvOK G.P (E n (Hs n) 13):=EnvOK.take (by kernel_rfl) (v12 n) (ok46 n (v12 n))
theorem v14 (n:Nat):EnvOK G.P (E n (Hs n) 14):=EnvOK.take (by kernel_rfl) (v13 n) (ok77 n (v13 n))
theorem v15 (n:Nat):EnvOK G.P (E n (Hs n) 15):=EnvOK.take (by kernel_rfl) (v14 n) (ok88 n (v14 n))
theorem v16 (n:Nat):EnvOK G.P (E n (Hs n) 16):=EnvOK.take (by kernel_rfl) (v15 n) (ok67 n (v15 n))
theorem v17 (n:Nat):EnvOK G.P (E n (Hs n) 17):=EnvOK.take (by kernel_rfl) (v16 n) (ok47 n (v16 n))
theorem v18 (n:Nat):EnvOK G.P (E n (Hs n) 18):=EnvOK.take (by kernel_rfl) (v17 n) (ok91 n (v17 n))
theorem v19 (n:Nat):EnvOK G.P (E n (Hs n) 19):=EnvOK.take (by kernel_rfl) (v18 n) (ok72 n (v18 n))
theorem v20 (n:Nat):EnvOK G.P (E n (Hs n) 20):=EnvOK.take (by kernel_rfl) (v19 n) (ok48 n (v19 n))
theorem v21 (n:Nat):EnvOK G.P (E n (Hs n) 21):=EnvOK.take (by kernel_rfl) (v20 n) (ok26 n (v20 n))
theorem v22 (n:Nat):EnvOK G.P (E n (Hs n) 22):=EnvOK.take (by kernel_rfl) (v21 n) (ok51 n (v21 n))
end Go.Proofs.YtcfoebkbahpnaaaGreat.Ab

/- What right operations are like: lengths, needs, the names that they bring. -/
set_option linter.unusedVariables false
set_option linter.unusedSimpArgs false
namespace Go.Proofs.YtcfoebkbahpnaaaGreat.Ab
open Go Go.Proofs.YtcfoebkbahpnaaaGreat

theorem opNeeds_le (kd:Int): -1≤opNeeds kd∧opNeeds kd≤2:=by
 unfold opNeeds;(repeat' split)<;>omega
theorem opOK_needs {o:OpS} (h:opOK o=true):0≤opNeeds o.f0:=by
 unfold opOK at h;simp only[Bool.and_eq_true]at h;have hl:=h.2.2.2;unfold lastOK at hl;by_cases h1:o.f0=1
 ·rw[h1];decide
 by_cases h2:o.f0=2
 ·rw[h2];decide
 by_cases h8:o.f0=8
 ·rw[h8];decide
 by_cases h9:o.f0=9
 ·rw[h9];decide
 rw[if_neg h1,if_neg h2,if_neg h8,if_neg h9]at hl;exact of_decide_eq_true hl
theorem opOK_tri {o:OpS} (h:opOK o=true) (h1:o.f0≠1):o.f1= []:=by
 unfold opOK bareB at h;rw[show(o.f0==1)=false from beq_eq_false_iff_ne.mpr h1]at h;simp only[Bool.and_eq_true,Bool.not_eq_true',Bool.or_eq_false_iff,Bool.not_false,Bool.true_and,decide_eq_false_iff_not]at h;exact List.eq_nil_of_length_eq_zero (by omega)
theorem opOK_tab {o:OpS} (h:opOK o=true) (h2:o.f0≠2):o.f2.f0= []∧o.f2.f1= []:=by
 unfold opOK bareB at h;rw[show(o.f0==2)=false from beq_eq_false_iff_ne.mpr h2]at h;simp only[Bool.and_eq_true,Bool.not_eq_true',Bool.or_eq_false_iff,Bool.not_false,Bool.true_and,decide_eq_false_iff_not]at h;exact⟨List.eq_nil_of_length_eq_zero (by omega),List.eq_nil_of_length_eq_zero (by omega)⟩
theorem opOK_basic {o:OpS} (h:opOK o=true) (h1:o.f0=1):o.f1.length≤32∧ ∀ t ∈ o.f1,patOK t=true:=by
 unfold opOK lastOK basicOK at h;rw[if_pos h1]at h;simp only[Bool.and_eq_true,decide_eq_true_eq,List.all_eq_true]at h;exact⟨h.2.2.2.2,h.2.2.2.1⟩
theorem opOK_table {o:OpS} (h:opOK o=true) (h2:o.f0=2):o.f2.f0.length≤32∧o.f2.f1.length≤64∧ ∀ r ∈ o.f2.f1,r.length=o.f2.f0.length:=by
 unfold opOK lastOK tabV at h;rw[if_neg (by omega),if_pos h2]at h;simp only[Bool.and_eq_true,decide_eq_true_eq,List.all_eq_true]at h;refine⟨h.2.2.2.1,h.2.2.2.2.1,fun r hr=>?_⟩;have:=h.2.2.2.2.2.2 r hr;unfold rowV at this;simp only[Bool.and_eq_true,beq_iff_eq]at this;exact this.1
theorem opOK_lens {o:OpS} (h:opOK o=true):o.f1.length≤32∧o.f2.f0.length≤32∧o.f2.f1.length≤64∧ ∀ r ∈ o.f2.f1,r.length=o.f2.f0.length:=by
 have a:o.f1.length≤32:=by
  by_cases h1:o.f0=1
  ·exact(opOK_basic h h1).1
  rw[opOK_tri h h1];decide
 refine⟨a,?_⟩;by_cases h2:o.f0=2
 ·exact opOK_table h h2
 rw[(opOK_tab h h2).1,(opOK_tab h h2).2];exact⟨by decide,by decide,fun r hr=>by cases hr⟩
theorem vstepP_len (kd:Int) (x:ByteArray) (out:List ByteArray):(vstepP kd x out).length≤out.length+1∧ ∀ s ∈ vstepP kd x out,s ∈ out∨s=x:=by
 unfold vstepP;by_cases h4:kd=4
 ·rw[if_pos h4];split
  ·exact⟨by omega,fun s hs=> .inl hs⟩
  exact⟨by simp,fun s hs=>by simpa using hs⟩
 rw[if_neg h4];exact⟨by omega,fun s hs=> .inl hs⟩
theorem varsOf_len (t:TriS):(varsOf t).length≤3∧ ∀ s ∈ varsOf t,s=t.f0.f1∨s=t.f1.f1∨s=t.f2.f1:=by
 have a:=vstepP_len t.f0.f0 t.f0.f1 [];have b:=vstepP_len t.f1.f0 t.f1.f1 (vstepP t.f0.f0 t.f0.f1 []);have c:=vstepP_len t.f2.f0 t.f2.f1 (vstepP t.f1.f0 t.f1.f1 (vstepP t.f0.f0 t.f0.f1 []));refine⟨by unfold varsOf;simp at a;omega,fun s hs=>?_⟩;rcases c.2 s hs with h|h
 ·rcases b.2 s h with h|h
  ·rcases a.2 s h with h|h
   ·cases h
   exact .inl h
  exact .inr (.inl h)
 exact .inr (.inr h)
theorem leafT_len: ∀ (l:List TriS) (O:List ByteArray),(leafT l O).length≤3*l.length+O.length
 | [],O=>by simp[leafT]
 |t::r,O=>by
  have:=leafT_len r ((varsOf t).reverse++O);have:=(varsOf_len t).1;unfold leafT;simp at*;omega
theorem leaf2_lenP (m:Nat): ∀ l O,(leaf2 m l O).length=(m+1)*l.length+O.length
 | [],O=>by simp[leaf2]
 |v::r,O=>by rw[leaf2,leaf2_lenP m r];simp[Nat.mul_add];omega
theorem leafP_len {o:OpS} (h:opOK o=true):(leafP o).length≤4096:=by
 obtain⟨a,b,c,_⟩:=opOK_lens h;have d:=leafT_len o.f1 [];unfold leafP;rw[leaf2_lenP];have:=Nat.mul_le_mul (show o.f2.f1.length+1≤65 by omega) b;simp at d;omega
def sizeS (l : List RS) : Nat := (l.map fun R => R.S.length).sum
theorem sizeS_append (a b:List RS):sizeS (a++b)=sizeS a+sizeS b:=by simp[sizeS]
theorem resNamesP_len {o:OpS} (h:opOK o=true) (nd:List RS):(resNamesP o nd).length≤sizeS nd+4096:=by
 match nd with
 | []=>have:=leafP_len h;simp[resNamesP,sizeS];omega
 | [a]=>simp only[resNamesP,oneL,sizeS];split<;>simp<;>omega
 | [a,b]=>simp only[resNamesP,twoL,sizeS];split<;>simp<;>omega
 |_::_::_::_=>simp[resNamesP]
end Go.Proofs.YtcfoebkbahpnaaaGreat.Ab

set_option linter.unusedVariables false
set_option linter.unusedSimpArgs false
namespace Go.Proofs.YtcfoebkbahpnaaaGreat.Hd
open Go.RowKit Go.Proofs.YtcfoebkbahpnaaaGreatW.PrintWords Go.Proofs.YtcfoebkbahpnaaaGreatW.PrintLast
open Ab (DV AV Dat OwnA OwnS Pres Fresh AR ORep FunOK Ent EnvOK Enters RowsR slR Who Ro RW)
/-! what reads as a value is its typed row -/
section
variable {D : Nat → Nat → Prop} {w : World}
theorem rStr_K (a:List DV) (x:ByteArray) (vs:List Value) (h:Ab.rStr a x) (k:DL D w a vs):Kd.string.K w x vs:=by
 cases h;obtain⟨v,rfl,kv⟩:=k.one;rw[dat_v kv];rfl
theorem DL.uncons {x:DV} {l:List DV} {vs:List Value} (h:DL D w (x::l) vs): ∃ v m,vs=v::m∧Dat D w x v∧DL D w l m:=by
 cases h with
 |cons h k=>exact⟨_,_,rfl,h,k⟩
theorem DL.unconsV {y:Value} {l:List DV} {vs:List Value} (h:DL D w (.v y::l) vs): ∃ m,vs=y::m∧DL D w l m:=by
 obtain⟨v,m,rfl,h1,h2⟩:=h.uncons;rw[dat_v h1];exact⟨m,rfl,h2⟩
theorem DL.nil_eq {vs:List Value} (h:DL D w [] vs):vs= []:=by cases h;rfl
theorem rTerm_K (a:List DV) (x:Ab.TermS) (vs:List Value) (h:Ab.rTerm a x) (k:DL D w a vs):k46.K w x vs:=by
 cases h;unfold Ab.eTerm at k
 obtain⟨m,rfl,q1⟩:=k.unconsV;obtain⟨m,rfl,q2⟩:=q1.unconsV;obtain⟨m,rfl,q3⟩:=q2.unconsV;obtain⟨m,rfl,q4⟩:=q3.unconsV;rw[q4.nil_eq];exact k46_mk w x
theorem rTri_K (a:List DV) (x:Ab.TriS) (vs:List Value) (h:Ab.rTri a x) (k:DL D w a vs):k100.K w x vs:=by
 cases h;unfold Ab.eTri at k
 obtain⟨m,rfl,q1⟩:=k.unconsV;obtain⟨m,rfl,q2⟩:=q1.unconsV;obtain⟨m,rfl,q3⟩:=q2.unconsV;obtain⟨m,rfl,q4⟩:=q3.unconsV;obtain⟨m,rfl,q5⟩:=q4.unconsV;obtain⟨m,rfl,q6⟩:=q5.unconsV;obtain⟨m,rfl,q7⟩:=q6.unconsV;obtain⟨m,rfl,q8⟩:=q7.unconsV;obtain⟨m,rfl,q9⟩:=q8.unconsV;obtain⟨m,rfl,q10⟩:=q9.unconsV;obtain⟨m,rfl,q11⟩:=q10.unconsV;obtain⟨m,rfl,q12⟩:=q11.unconsV;rw[q12.nil_eq];exact k100_mk w x
theorem rPart_K (a:List DV) (x:Ab.PartS) (vs:List Value) (h:Ab.rPart a x) (k:DL D w a vs):k98.K w x vs:=by
 cases h;unfold Ab.ePart at k
 obtain⟨m,rfl,q1⟩:=k.unconsV;obtain⟨m,rfl,q2⟩:=q1.unconsV;obtain⟨m,rfl,q3⟩:=q2.unconsV;obtain⟨m,rfl,q4⟩:=q3.unconsV;obtain⟨m,rfl,q5⟩:=q4.unconsV;obtain⟨m,rfl,q6⟩:=q5.unconsV;obtain⟨m,rfl,q7⟩:=q6.unconsV;rw[q7.nil_eq];exact k98_mk w x
theorem rRow_K (a:List DV) (x:List Ab.TermS) (vs:List Value) (h:Ab.rRow a x∧x.length<4611686018427387904) (k:DL D w a vs):(Kd.slice 46 k46).K w x vs:=by
 obtain⟨⟨c,rfl,h⟩,hl⟩:=h;obtain⟨v,rfl,kv⟩:=k.one;obtain⟨A,cp,rfl,h1,h2⟩:=slR_of (d:=k46) rfl rTerm_K h hl kv;exact⟨A,cp,rfl,h1,h2⟩
theorem RowsR.and {α:Type} {r:List DV→α→Prop} {p:α→Prop}: ∀ {rows:RW} {l:List α},RowsR r rows l→(∀ x ∈ l,p x)→RowsR (fun a x=>r a x∧p x) rows l
 | [],[],_,_=>trivial
 |_::_,x::_,h,k=>⟨⟨h.1,k x (List.mem_cons_self ..)⟩,RowsR.and h.2 fun y hy=>k y (List.mem_cons_of_mem _ hy)⟩
 | [],_::_,h,_=>h.elim
 |_::_,[],h,_=>h.elim
theorem slR.and {α:Type} {n:Nat} {r:List DV→α→Prop} {p:α→Prop} {c:DV} {l:List α} (h:slR n r c l) (k: ∀ x ∈ l,p x):slR n (fun a x=>r a x∧p x) c l:=by
 rcases h with h|⟨rows,e,h⟩
 ·exact .inl h
 exact .inr ⟨rows,e,RowsR.and h k⟩
/-- lists that fit -/
def OpSz (o : Ab.OpS) : Prop := o.f1.length < 4611686018427387904 ∧ o.f2.f0.length < 4611686018427387904 ∧ o.f2.f1.length < 4611686018427387904 ∧ o.f3.length < 4611686018427387904 ∧ ∀ r ∈ o.f2.f1, r.length < 4611686018427387904
theorem OpSz.of {n:Nat} {o:Ab.OpS} (h:o.lt n) (hn:Ab.Fuel n):OpSz o:=by
 have:=hn.2;have:=h.a;have:=h.c;have:=h.e;have:=h.g;exact⟨by omega,by omega,by omega,by omega,fun r hr=>by have:=(h.f r hr).1;omega⟩
theorem rOp_K (a:List DV) (x:Ab.OpS) (vs:List Value) (h:Ab.rOp a x∧OpSz x) (k:DL D w a vs):k43.K w x vs:=by
 obtain⟨⟨a1,a2,a3,a4,rfl,h1,h2,h3,h4⟩,z1,z2,z3,z4,z5⟩:=h;obtain⟨m,rfl,q1⟩:=k.unconsV;obtain⟨v1,m,rfl,k1,q2⟩:=q1.uncons;obtain⟨v2,m,rfl,k2,q3⟩:=q2.uncons;obtain⟨v3,m,rfl,k3,q4⟩:=q3.uncons;obtain⟨v4,m,rfl,k4,q5⟩:=q4.uncons;obtain⟨m,rfl,q6⟩:=q5.unconsV;obtain⟨m,rfl,q7⟩:=q6.unconsV;rw[q7.nil_eq];obtain⟨A1,c1,rfl,l1,g1⟩:=slR_of (d:=k100) rfl rTri_K h1 z1 k1;obtain⟨A2,c2,rfl,l2,g2⟩:=slR_of (d:=Kd.string) rfl rStr_K h2 z2 k2;obtain⟨A3,c3,rfl,l3,g3⟩:=slR_of (d:=Kd.slice 46 k46) rfl rRow_K (slR.and h3 z5) z3 k3;obtain⟨A4,c4,rfl,l4,g4⟩:=slR_of (d:=k98) rfl rPart_K h4 z4 k4;exact k43_mk w x l1 g1 l2 g2 l3 g3 l4 g4
/-! and back -/
theorem Term_D {x:Ab.TermS} {vs:List Value} (h:k46.K w x vs):DL (fun _ _=>True) w (Ab.eTerm x) vs:=by
 rw[k46_open h];exact .cons (.v rfl) (.cons (.v rfl) (.cons (.v rfl) (.cons (.v rfl) .nil)))
theorem Tri_D {x:Ab.TriS} {vs:List Value} (h:k100.K w x vs):DL (fun _ _=>True) w (Ab.eTri x) vs:=by
 rw[k100_open h];exact .cons (.v rfl) (.cons (.v rfl) (.cons (.v rfl) (.cons (.v rfl) (.cons (.v rfl) (.cons (.v rfl) (.cons (.v rfl) (.cons (.v rfl) (.cons (.v rfl) (.cons (.v rfl) (.cons (.v rfl) (.cons (.v rfl) .nil)))))))))))
theorem Part_D {x:Ab.PartS} {vs:List Value} (h:k98.K w x vs):DL (fun _ _=>True) w (Ab.ePart x) vs:=by
 rw[k98_open h];exact .cons (.v rfl) (.cons (.v rfl) (.cons (.v rfl) (.cons (.v rfl) (.cons (.v rfl) (.cons (.v rfl) (.cons (.v rfl) .nil))))))
theorem Str_D {x:ByteArray} {vs:List Value} (h:Kd.string.K w x vs):DL (fun _ _=>True) w [Ab.S x] vs:=by
 have:vs= [.string x]:=h;rw[this];exact .cons (.v rfl) .nil
variable {A:Option Addr} {c:Nat}
theorem terms_D {l:List Ab.TermS} (hc:l.length≤c) (h:k46.C w A l.length l):Dat (fun _ _=>True) w (.sl false 4 (l.map Ab.eTerm)) (.slice A l.length c):=row_mk rfl (by decide) (fun _=>rfl) (fun x _ vs h=>Term_D h) hc h
theorem tris_D {l:List Ab.TriS} (hc:l.length≤c) (h:k100.C w A l.length l):Dat (fun _ _=>True) w (.sl false 12 (l.map Ab.eTri)) (.slice A l.length c):=row_mk rfl (by decide) (fun _=>rfl) (fun x _ vs h=>Tri_D h) hc h
theorem parts_D {l:List Ab.PartS} (hc:l.length≤c) (h:k98.C w A l.length l):Dat (fun _ _=>True) w (.sl false 7 (l.map Ab.ePart)) (.slice A l.length c):=row_mk rfl (by decide) (fun _=>rfl) (fun x _ vs h=>Part_D h) hc h
theorem strs_D {l:List ByteArray} (hc:l.length≤c) (h:Kd.string.C w A l.length l):Dat (fun _ _=>True) w (.sl false 1 (Ab.srow l)) (.slice A l.length c):=row_mk (e:=fun s=> [Ab.S s]) rfl (by decide) (fun _=>rfl) (fun x _ vs h=>Str_D h) hc h
theorem rows_D {l:List (List Ab.TermS)} (hc:l.length≤c) (h:(Kd.slice 46 k46).C w A l.length l):Dat (fun _ _=>True) w (.sl false 1 (l.map Ab.eRow)) (.slice A l.length c):=
 row_mk rfl (by decide) (fun _=>rfl) (fun x _ vs h=>by
  obtain⟨A,c,rfl,h1,h2⟩:=h;exact .cons (terms_D h1 h2) .nil) hc h
end
end Go.Proofs.YtcfoebkbahpnaaaGreat.Hd
