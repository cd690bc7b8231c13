import Derived.Test.YtcfoebkbahpnaaaGreatZAn
import Derived.Test.YtcfoebkbahpnaaaGreatZSt
import Derived.Test.YtcfoebkbahpnaaaGreatZHs
import Derived.Shelf.Strings.Builder1
import Derived.Shelf.Strings.Builder2
import Derived.Shelf.Strings.OnBuilder
import Derived.Shelf.Strings.BuilderF
import Derived.Shelf.Strings.BuilderK
import Derived.Shelf.Strings.Builder2Cap
import Derived.Shelf.Strings.BuilderCap
import Derived.Shelf.Slices.Turned
import Derived.Test.YtcfoebkbahpnaaaGreatProg
/- What is said of functions, their loops and joins, holds. -/
set_option linter.unusedVariables false
set_option linter.unusedSimpArgs false
namespace Go.Proofs.YtcfoebkbahpnaaaGreat.Ab
open Go

/-! readings: when they come to something -/
section
variable {r : R}
theorem iA_inv {a:AV} {K:Int→Option R} (h:iA a K=some r): ∃ n,a= .d (I n)∧K n=some r:=by unfold iA at h;split at h;exact⟨_,rfl,h⟩;cases h
theorem uA_inv {a:AV} {K:Int→Option R} (h:uA a K=some r): ∃ n,a= .d (U n)∧K n=some r:=by unfold uA at h;split at h;exact⟨_,rfl,h⟩;cases h
theorem sA_inv {a:AV} {K:ByteArray→Option R} (h:sA a K=some r): ∃ n,a= .d (S n)∧K n=some r:=by unfold sA at h;split at h;exact⟨_,rfl,h⟩;cases h
theorem bA_inv {a:AV} {K:Bool→Option R} (h:bA a K=some r): ∃ n,a= .d (B n)∧K n=some r:=by unfold bA at h;split at h;exact⟨_,rfl,h⟩;cases h
theorem lA_inv {own:Bool} {n:Nat} {a:AV} {K:RW→Option R} (h:lA own n a K=some r): ∃ l,a= .d (.sl own n l)∧K l=some r:=by
 unfold lA at h;split at h
 ·obtain⟨h1,h2⟩:=bif_some h;rw[Bool.and_eq_true]at h1;have h3:=Nat.eq_of_beq_eq_true h1.2;subst h3;rename_i o m rr;have:o=own:=by cases o<;>cases own<;>first|rfl|exact absurd h1.1 (by decide)
  subst this;exact⟨_,rfl,h2⟩
 cases h
theorem agA_inv {a:AV} {K:List DV→Option R} (h:agA a K=some r): ∃ n,a= .d (.ag n)∧K n=some r:=by unfold agA at h;split at h;exact⟨_,rfl,h⟩;cases h
theorem pA_inv {k off:Nat} {a:AV} {K:Option R} (h:pA k off a K=some r):a= .pt k off∧K=some r:=by
 unfold pA at h;split at h
 ·obtain⟨h1,h2⟩:=bif_some h;rw[Bool.and_eq_true]at h1;rw[Nat.eq_of_beq_eq_true h1.1,Nat.eq_of_beq_eq_true h1.2];exact⟨rfl,h2⟩
 cases h
theorem hdL_inv {α:Type} {l:List α} {K:α→List α→Option R} (h:hdL l K=some r): ∃ x y,l=x::y∧K x y=some r:=by unfold hdL at h;split at h;exact⟨_,_,rfl,h⟩;cases h
theorem endL_inv {α:Type} {l:List α} {K:Option R} (h:endL l K=some r):l= []∧K=some r:=by unfold endL at h;split at h;exact⟨rfl,h⟩;cases h
theorem soC_inv {a:Option (List DV)} {K:List DV→Option R} (h:soC a K=some r): ∃ n,a=some n∧K n=some r:=by unfold soC at h;split at h;exact⟨_,rfl,h⟩;cases h
theorem noC_inv {a:Option (List DV)} {K:Option R} (h:noC a K=some r):a=none∧K=some r:=by unfold noC at h;split at h;exact⟨rfl,h⟩;cases h
end
section
variable {G:Cfg} {env:Env} {lv:LEnv} {c:FC} {n0 n:Nat}
/-- One part of a code: what is said of it is so. -/
def PcOK (G : Cfg) (env : Env) (lv : LEnv) (c : FC) (n0 n : Nat) (p : Bool × Code) : Prop := match p with
  | (false, a) => ∀ s, lv (firstReg a) = some s → LvOf G env c n0 n a s
  | (true, b) => ∀ L s, look? (firstReg b) c.jn = some L → lv (jkey b) = some s → JnOf G env c n0 n b L s
theorem LvC_all: ∀ cd:Code,(∀ p ∈ pcs (fun i=>(lv i).isSome) (fun i=>(look? i c.jn).isSome) cd,PcOK G env lv c n0 n p)→LvC G env lv c n0 n cd
 | .seq a b,h=>by
  simp only[pcs,List.mem_append]at h;refine⟨LvC_all a fun p hp=>h p (.inl hp),fun L s h1 h2=>?_,fun h1=>LvC_all b fun p hp=>h p (.inr ?_)⟩
  ·have:=h (true,b) (.inr (by rw[h1,h2];simp));exact this L s h1 h2
  have e:((look? (firstReg b) c.jn).isSome && (lv (jkey b)).isSome)=false:=by rcases h1 with e|e<;>rw[e]<;>simp
  rw[e];exact hp
 | .cond _ a b,h=>by
  simp only[pcs,List.mem_append]at h;exact⟨LvC_all a fun p hp=>h p (.inl hp),LvC_all b fun p hp=>h p (.inr hp)⟩
 | .block _ a,h=>by unfold LvC;exact LvC_all a h
 | .scope a,h=>by unfold LvC;exact LvC_all a h
 | .loop a,h=>by
  simp only[pcs]at h;unfold LvC;refine⟨fun s hs=>?_,fun hn=>LvC_all a fun p hp=>h p (by rw[hn];exact hp)⟩;have:=h (false,a) (by rw[hs];simp);exact this s hs
 | .skip,_| .region _ _ _,_| .exit _,_| .ret,_| .label _,_| .rangeFunc _ _ _ _,_| .goto _,_| .refuse _,_=>trivial
theorem all_nil {α:Type} {Q:α→Prop}: ∀ p ∈ ([]:List α),Q p:=fun p hp=>by cases hp
theorem all_cons {α:Type} {Q:α→Prop} {a:α} {l:List α} (h:Q a) (hl: ∀ p ∈ l,Q p): ∀ p ∈ a::l,Q p:=fun p hp=>by
 rcases List.mem_cons.1 hp with rfl|hp
 ·exact h
 exact hl p hp
theorem LvC_of {cd:Code} {l:List (Bool × Code)} (he:pcs (fun i=>(lv i).isSome) (fun i=>(look? i c.jn).isSome) cd=l) (h: ∀ p ∈ l,PcOK G env lv c n0 n p):LvC G env lv c n0 n cd:=LvC_all cd (by rw[he];exact h)
theorem PcL {a:Code} {s:Nat→Fr→Ob→KF→Option R} (hs:lv (firstReg a)=some s) (h:LvOf G env c n0 n a s):PcOK G env lv c n0 n (false,a):=fun s' h'=>by
 rw[hs]at h';cases h';exact h
theorem PcJ {b:Code} {L:List Nat × List Nat} {s:Nat→Fr→Ob→KF→Option R} (hL:look? (firstReg b) c.jn=some L) (hs:lv (jkey b)=some s) (h:JnOf G env c n0 n b L s):PcOK G env lv c n0 n (true,b):=fun L' s' h1 h2=>by
 rw[hL]at h1;cases h1;rw[hs]at h2;cases h2;exact h
theorem ofL_eta (L:List Nat) (g:Nat→AV):Fr.ofL (L.map fun t=>(t,g t))=Fr.ofL (L.map fun t=>(t,Fr.ofL (L.map fun t=>(t,g t)) t)):=by
 funext u;rcases ofL_in L (fun t=>Fr.ofL (L.map fun t=>(t,g t)) t) u with ⟨h1,h2⟩|h2
 ·exact h2.symm
 rcases ofL_in L g u with ⟨h3,h4⟩|h4
 ·have: ∀ (L:List Nat) (f:Nat→AV),u ∈ L→Fr.ofL (L.map fun t=>(t,f t)) u=f u:=by
   intro L f;induction L with
   |nil=>intro h;cases h
   |cons a l ih=>
    intro h;simp only[List.map_cons,Fr.ofL];cases hb:Nat.beq a u with
    |true=>rw[Nat.eq_of_beq_eq_true hb];rfl
    |false=>exact ih ((List.mem_cons.1 h).resolve_left fun e=>by subst e;simp at hb)
  rw[this L _ h3,this L _ h3];exact(this L g h3).symm
 rw[h4,h2]
theorem LvOf_r {s:Nat→Fr→Ob→KF→Option R} {x:Code} {L bx:List Nat} (hV:EnvOK G.P env) (hl:LvC G env lv c n0 n x) (hL:look [] (firstReg x) c.lp=L) (hb:boxesOf c n0 x=bx)
 (hs: ∀ k (F:Fr) (O:Ob) K r,F=Fr.ofL (L.map fun t=>(t,F t))→s k F O K=some r→ ∃ m,k=m+1∧ ∀ K,s (m+1) F O K=codeA G env lv c n0 n x F O fun ex fr ob=>match ex with
  | .nrm=>s m (headF L bx fr) (headO2 n0 L bx fr ob) K
  |e=>K e fr ob):LvOf G env c n0 n x s:=
 LvOf_rounds hV hl fun k fr ob K r h=>by
  rw[hL,hb]at h ⊢;exact hs k _ _ K r (ofL_eta L _) h
theorem JnOf_r {s:Nat→Fr→Ob→KF→Option R} {x:Code} {L:List Nat × List Nat} (hV:EnvOK G.P env) (hl:LvC G env lv c n0 n x)
 (hs: ∀ (F:Fr) (O:Ob) K r,F=Fr.ofL (L.1.map fun t=>(t,F t))→s n F O K=some r→ ∀ K,s n F O K=codeA G env lv c n0 n x F O (endK n0 L.2 K)):JnOf G env c n0 n x L s:=fun fr ob K r h=>by
 have he:=hs _ _ K r (ofL_eta L.1 _) h;have he':=he K;unfold canF at h;rw[he]at h;obtain⟨ex,fr',ob',h1,g1⟩:=codeA_lv hV n x hl h;cases ex with
 |nrm=>exact⟨_,_,_,fun K=>(he K).trans (h1 _),fun K=>g1 _⟩
 |ext i=>exact⟨_,_,_,fun K=>(he K).trans (h1 _),fun K=>g1 _⟩
 |ret=>exact⟨_,_,_,fun K=>(he K).trans (h1 _),fun K=>g1 _⟩
/-- What is said of a function is so. -/
def Ent (P : Program) (f : FuncId) (s : Spec) : Prop := ∀ args obs K r, s args obs K = some r → ∃ q : R, (∀ K', s args obs K' = K' q) ∧ Enters P f ∧ FunOK P f args obs q
theorem ent_of {f:FuncId} {fn:Func} {s:Spec} {args:List AV} {obs:List (List DV)} {K:R→Option R} {r:R} (hE:EqOK G) (hM:G.P.follows .mixedOrders=true) (hV:EnvOK G.P env) (hf:FnOK G f fn args.length)
 (hl: ∀ body,fn.body=some body→LvC G env lv (G.fc f) obs.length n body) (he: ∀ K,funcA G env lv n f fn args obs K=s args obs K) (h:s args obs K=some r):
 ∃ q:R,(∀ K',s args obs K'=K' q)∧Enters G.P f∧FunOK G.P f args obs q:=by
 obtain⟨q,h1,h2,h3⟩:=func_ok hE hV hM hf hl ((he K).trans h);exact⟨q,fun K'=>(he K').symm.trans (h1 K'),h2,h3⟩
theorem EnvOK.nil {P:Program}:EnvOK P (envL []):=fun f args obs K r h=>by cases h
theorem envL_app (f:Nat) (s:Spec): ∀ (l:List (Nat × Spec)) (g:Nat),envL (l++ [(f,s)]) g=envL l g∨(g=f∧envL (l++ [(f,s)]) g=s)∨envL (l++ [(f,s)]) g=fun _ _ _=>none
 | [],g=>by
  simp only[List.nil_append,envL];cases h:Nat.beq f g with
  |true=>exact .inr (.inl ⟨(Nat.eq_of_beq_eq_true h).symm,rfl⟩)
  |false=>exact .inr (.inr rfl)
 |(m,s')::r,g=>by
  simp only[List.cons_append,envL];cases h:Nat.beq m g with
  |true=>exact .inl rfl
  |false=>exact envL_app f s r g
theorem EnvOK.app {P:Program} {l:List (Nat × Spec)} {f:Nat} {s:Spec} (h:EnvOK P (envL l)) (hs:Ent P f s):EnvOK P (envL (l++ [(f,s)])):=fun g args obs K r he=>by
 rcases envL_app f s l g with e|⟨rfl,e⟩|e
 ·rw[e]at he;obtain⟨q,h1,h2⟩:=h g args obs K r he;exact⟨q,by rw[e];exact h1,h2⟩
 ·rw[e]at he;obtain⟨q,h1,h2⟩:=hs args obs K r he;exact⟨q,by rw[e];exact h1,h2⟩
 rw[e]at he;cases he
theorem EnvOK.take {P:Program} {l:List (Nat × Spec)} {i f:Nat} {s:Spec} (hi:l[i]? =some (f,s)) (h:EnvOK P (envL (l.take i))) (hs:Ent P f s):EnvOK P (envL (l.take (i+1))):=by
 rw[List.take_add_one,hi];exact h.app hs
end
end Go.Proofs.YtcfoebkbahpnaaaGreat.Ab

/- The pure forms of the functions that are proved by hand: term.isIri, strings.Join, scope.Check, formula.Text, print.code. -/
namespace Go.Proofs.YtcfoebkbahpnaaaGreat.Ab
open Go Go.Proofs.YtcfoebkbahpnaaaGreat
instance (n : Nat) (t : TermS) : Decidable (t.lt n) := by unfold TermS.lt; infer_instance
instance (n : Nat) (t : TriS) : Decidable (t.lt n) := by unfold TriS.lt; infer_instance
instance (n : Nat) (t : PartS) : Decidable (t.lt n) := by unfold PartS.lt; infer_instance
instance (n : Nat) (r : List TermS) : Decidable (rowLt n r) := by unfold rowLt; infer_instance
instance (n : Nat) : Decidable (Fuel n) := by unfold Fuel; infer_instance
instance (n : Nat) (o : OpS) : Decidable (o.lt n) :=
  decidable_of_iff ((o.f1.length < n ∧ (∀ t ∈ o.f1, t.lt n) ∧ o.f2.f0.length < n ∧ (∀ s ∈ o.f2.f0, s.size < n)) ∧ o.f2.f1.length < n ∧ (∀ r ∈ o.f2.f1, rowLt n r) ∧ o.f3.length < n ∧ (∀ p ∈ o.f3, p.lt n) ∧ o.f4.size < n)
    ⟨fun ⟨⟨a, b, c, d⟩, e, f, g, h, i⟩ => ⟨a, b, c, d, e, f, g, h, i⟩, fun h => ⟨⟨h.a, h.b, h.c, h.d⟩, h.e, h.f, h.g, h.h, h.i⟩⟩
def okRun : Nat → List OpS → Bool
  | n, [] => n == 1
  | n, o :: r => opOK o && (decide (opNeeds o.f0 ≤ (n : Int)) && okRun (n - (opNeeds o.f0).toNat + 1) r)
def term_isIri.g (s : ByteArray) (K : Bool → Option R) : Option R := K (okIri s.data.toList)
def strings_Join.g (l : RW) (s : ByteArray) (K : ByteArray → Option R) : Option R :=
  match unRows unStr l with
  | some xs => if xs.length ≤ 140737488355328 ∧ (Lib.join (TB xs) s.data.toList).length ≤ 140737488355328 then K (ofL (Lib.join (TB xs) s.data.toList)) else none
  | none => none
def scope_Check.g (n : Nat) (l : RW) (K : Int → Option R) : Option R :=
  match unRows unOp l with
  | some c => if Fuel n ∧ c.length < n ∧ ∀ o ∈ c, o.lt n then K (resultsP c).2 else none
  | none => none
def formula_Text.g (n : Nat) (l : RW) (K : ByteArray → Int → Option R) : Option R :=
  match unRows unPart l with
  | some c => if Fuel n ∧ c.length < n ∧ ∀ o ∈ c, o.lt n then (if fcheck c = 0 then K (ofL (formT c)) 0 else K ⟨#[]⟩ (fcheck c)) else none
  | none => none
def print_code.g (n : Nat) (l : RW) (K : ByteArray → Option R) : Option R :=
  match unRows unOp l with
  | some c => if (Fuel n ∧ 1000 < n ∧ ∀ o ∈ c, o.lt n) ∧ c.length ≤ 128 ∧ okRun 0 c = true then K (ofL (codeT c)) else none
  | none => none
end Go.Proofs.YtcfoebkbahpnaaaGreat.Ab

/- The library's contracts at this translation, as the kit's lay-plain.mjs wrote them, those that are used. -/
namespace Go.Proofs
open Go.Shelf
def Tryz.lays156_ren : Go.Shelf.Ren := ⟨fun | 156 => 59 | 165 => 80 | 166 => 81 | 169 => 82 | 240 => 96 | 241 => 97 | 276 => 103 | 277 => 104 | n => n, fun | 31 => 37 | 9 => 9 | 3 => 3 | 4 => 4 | 0 => 0 | 20 => 20 | 72 => 130 | 76 => 134 | 70 => 127 | 37 => 128 | 75 => 133 | 127 => 149 | 164 => 153 | 5 => 5 | 80 => 120 | n => n, fun | n => n⟩
theorem Tryz.lays156:Go.Proofs.Lays.n156 Tryz.prog Tryz.lays156_ren:= {
 mixed:=by kernel_rfl
 f156:=Tryz.func59.trans (congrArg some (by kernel_rfl))
 f165:=Tryz.func80.trans (congrArg some (by kernel_rfl))
 f166:=Tryz.func81.trans (congrArg some (by kernel_rfl))
 f169:=Tryz.func82.trans (congrArg some (by kernel_rfl))
 f240:=Tryz.func96.trans (congrArg some (by kernel_rfl))
 f241:=Tryz.func97.trans (congrArg some (by kernel_rfl))
 f276:=Tryz.func103.trans (congrArg some (by kernel_rfl))
 f277:=Tryz.func104.trans (congrArg some (by kernel_rfl))
 t0:=Tryz.underlying0
 a0:=Tryz.isAgg0
 z0:=Tryz.sizeOf0
 v0:=Tryz.zeroValue0
 t3:=Tryz.underlying3
 a3:=Tryz.isAgg3
 z3:=Tryz.sizeOf3
 v3:=Tryz.zeroValue3
 t4:=Tryz.underlying4
 a4:=Tryz.isAgg4
 z4:=Tryz.sizeOf4
 v4:=Tryz.zeroValue4
 t9:=Tryz.underlying9
 a9:=Tryz.isAgg9
 z9:=Tryz.sizeOf9
 v9:=Tryz.zeroValue9
 t20:=Tryz.underlying20
 a20:=Tryz.isAgg20
 z20:=Tryz.sizeOf20
 v20:=Tryz.zeroValue20
 t31:=Tryz.underlying37
 a31:=Tryz.isAgg37
 z31:=Tryz.sizeOf37
 v31:=Tryz.zeroValue37
 t37:=Tryz.underlying128
 a37:=Tryz.isAgg128
 z37:=Tryz.sizeOf128
 v37:=Tryz.zeroValue128
 t70:=Tryz.underlying127
 a70:=Tryz.isAgg127
 z70:=Tryz.sizeOf127
 v70:=Tryz.zeroValue127
 t72:=Tryz.underlying130
 a72:=Tryz.isAgg130
 z72:=Tryz.sizeOf130
 v72:=Tryz.zeroValue130
 t75:=Tryz.underlying133
 a75:=Tryz.isAgg133
 z75:=Tryz.sizeOf133
 v75:=Tryz.zeroValue133
 t76:=Tryz.underlying134
 a76:=Tryz.isAgg134
 z76:=Tryz.sizeOf134
 v76:=Tryz.zeroValue134
 t127:=Tryz.underlying149
 a127:=Tryz.isAgg149
 z127:=Tryz.sizeOf149
 v127:=Tryz.zeroValue149
 t164:=Tryz.underlying153
 a164:=Tryz.isAgg153
 z164:=Tryz.sizeOf153
 v164:=Tryz.zeroValue153}
theorem Tryz.Builder_Extra_156:Builder.Extra Tryz.prog Tryz.lays156_ren:= {
 sizeBuilder:=by kernel_rfl
 liesBuilder:=by kernel_rfl
 t5:=Tryz.underlying5
 a5:=Tryz.isAgg5
 z5:=Tryz.sizeOf5
 v5:=Tryz.zeroValue5
 infoByte:=by kernel_rfl
 cellsByte:=by kernel_rfl
 sizeByte:=by kernel_rfl
 neB5:=by decide}
open Go.RowKit in
theorem Tryz.strings_Join_none (a:Option Addr) (c:Nat) (sep:ByteArray) (w:World):
 Calls Tryz.prog 59 #[.slice a 0 c,.string sep] w fun e w'=>e= .returned (.string ⟨#[]⟩)∧w'=w:=Any.strings_Join_none Tryz.lays156 Tryz.Builder_Extra_156 a c sep w
open Go.RowKit in
theorem Tryz.strings_Join (bk o c:Nat) (xs:List ByteArray) (sep:ByteArray) (w:World) (hcells: ∀ (j:Nat) x,xs[j]? =some x→w.cell? ⟨bk,o+j,none⟩=some (.string x)) (hbk:bk<w.heap.size) (hN:xs.length≤140737488355328) (hcap:xs.length≤c) (hlen:(Lib.join (xs.map (·.data.toList)) sep.data.toList).length≤140737488355328):
 Calls Tryz.prog 59 #[.slice (some ⟨bk,o,none⟩) xs.length c,.string sep] w fun e w'=>e= .returned (.string ⟨(Lib.join (xs.map (·.data.toList)) sep.data.toList).toArray⟩)∧Below w.heap.size w w':=Any.strings_Join Tryz.lays156 Tryz.Builder_Extra_156 bk o c xs sep w hcells hbk hN hcap hlen
end Go.Proofs
