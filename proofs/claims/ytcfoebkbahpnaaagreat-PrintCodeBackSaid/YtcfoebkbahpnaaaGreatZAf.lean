/- Tests, sums, parts of values without memory, as the program reckons them. -/
import Derived.Test.YtcfoebkbahpnaaaGreatZAe
import Derived.Laws.StructEq
import Derived.Laws.BytesString
set_option linter.unusedVariables false
set_option linter.unusedSimpArgs false
namespace Go.Proofs.YtcfoebkbahpnaaaGreat.Ab
open Go

theorem eqL_eq: ∀ a b:List UInt8,eqL a b=(a==b)
 | [],[]=>rfl
 |x::r,[]=>rfl
 | [],y::s=>rfl
 |x::r,y::s=>by
  simp only[eqL,eqL_eq r s,List.cons_beq_cons];congr 1;rw[Bool.eq_iff_iff];constructor
  ·intro h;exact beq_iff_eq.2 (UInt8.toNat_inj.1 (Nat.eq_of_beq_eq_true h))
  intro h;rw[beq_iff_eq.1 h];exact Nat.beq_refl _
theorem strEq_beq (a b:ByteArray):strEq a b=(a==b):=by
 rw[strEq,eqL_eq,beq_toListBytes,ByteArray.toList_eq,ByteArray.toList_eq]
structure EqOK (G : Cfg) : Prop where
  eq : ∀ t, G.eqs t = true → ∀ (xs ys : List DV) (a c : Array Value) (b : Bool) D (w : World), kinded (kindsT G.P 8 t) xs = true → kinded (kindsT G.P 8 t) ys = true → eqCells xs ys = some b → CV D w xs a.toList → CV D w ys c.toList →
    (Op.equalIn Op.maxDepth t (.agg a) (.agg c)).run G.P w = .ok b w
  guard : ∀ t, G.eqs t = true → G.P.eqGuardType G.P.depth t = false

section
variable {G : Cfg} {P : Program} {D : Nat → Nat → Prop} {w : World}
theorem Dat.v_inv {x v:Value} (h:Dat D w (.v x) v):v=x:=by cases h;rfl
theorem equalIn_bool {t:TypeId} {a b:Bool} (hu:P.underlying t=some .bool) (d:Nat):(Op.equalIn (d+1) t (.bool a) (.bool b)).run P w= .ok (a==b) w:=by
 simp only[Op.equalIn,Sem.run_bind,underlying_run hu,Result.andThen_ok,Sem.run_pure]
theorem equal_bool {t:TypeId} {a b:Bool} (hu:P.underlying t=some .bool):(Op.equal t (.bool a) (.bool b)).run P w= .ok (a==b) w:=
 equalIn_bool hu 9999
theorem eql_run {t:TypeId} {x y:Value} {r:Bool} (h:(Op.equal t x y).run P w= .ok r w) (e1:binOp .eql t x y=(do pure (.bool (← Op.equal t x y)))) (e2:binOp .neq t x y=(do pure (.bool (!(← Op.equal t x y))))):
 (binOp .eql t x y).run P w= .ok (.bool r) w∧(binOp .neq t x y).run P w= .ok (.bool (!r)) w:=by
 rw[e1,e2];simp only[Sem.run_bind,h,Result.andThen_ok,Sem.run_pure,and_self]
theorem eq_ok (hE:EqOK G) {t:TypeId} {x y:DV} {a b:Value} {r:Bool} (h:eqA G t x y=some r) (hx:Dat D w x a) (hy:Dat D w y b) (o:BinOp) (xo yo:Operand):
 (eqGuard o t xo yo a b).run G.P w= .ok () w∧(binOp .eql t a b).run G.P w= .ok (.bool r) w∧(binOp .neq t a b).run G.P w= .ok (.bool (!r)) w:=by
 unfold eqA at h;split at h
 ·cases hx.v_inv;cases hy.v_inv
  obtain⟨hk,h⟩:=bif_some h;simp at hk;subst hk;simp at h;subst h;refine⟨by simp only[eqGuard];cases o<;>rfl,?_,?_⟩<;>simp only[binOp,Op.intCmp,ne_eq,not_true_eq_false,if_false,Sem.run_pure]<;>rfl
 ·cases hx.v_inv;cases hy.v_inv
  simp at h;subst h;rename_i p q;have e:(p.toList==q.toList)=strEq p q:=(by rw[strEq_beq,beq_toListBytes]);refine⟨by simp only[eqGuard];cases o<;>rfl,?_,?_⟩<;>simp only[binOp,Op.stringOp,Sem.run_pure,e]
 ·cases hx.v_inv;cases hy.v_inv
  split at h
  ·rename_i hu;simp only[Option.some.injEq]at h;subst h;exact⟨by simp only[eqGuard];cases o<;>rfl,eql_run (equal_bool hu) rfl rfl⟩
  cases h
 ·obtain⟨a',rfl,ha⟩:=hx.ag_inv;obtain⟨b',rfl,hb⟩:=hy.ag_inv;obtain⟨hl,h⟩:=bif_some h;rw[Bool.and_eq_true,Bool.and_eq_true]at hl;have h1:=hE.eq t hl.1 _ _ a' b' r D w hl.2.1 hl.2.2 h ha hb;have h2:=hE.guard t hl.1;refine⟨?_,eql_run h1 rfl rfl⟩;cases o<;>simp[eqGuard,h2]
 cases h
theorem bin_ok (hE:EqOK G) {op:BinOp} {t:TypeId} {x y z:DV} {a b:Value} (h:binA G op t x y=some z) (hx:Dat D w x a) (hy:Dat D w y b) (xo yo:Operand):
 ∃ v,(do eqGuard op t xo yo a b;binOp op t a b:Sem Value).run G.P w= .ok v w∧z= .v v∧v.oneCell'=true:=by
 unfold binA at h;split at h
 ·rw[Option.map_eq_some_iff]at h;obtain⟨r,h,rfl⟩:=h;obtain⟨h1,h2,h3⟩:=eq_ok hE h hx hy .eql xo yo;exact⟨_,by simp[h1,h2],rfl,rfl⟩
 ·rw[Option.map_eq_some_iff]at h;obtain⟨r,h,rfl⟩:=h;obtain⟨h1,h2,h3⟩:=eq_ok hE h hx hy .neq xo yo;exact⟨_,by simp[h1,h3],rfl,rfl⟩
 rename_i hne1 hne2;have hg: ∀ a b,(eqGuard op t xo yo a b).run G.P w= .ok () w:=fun a b=>by
  cases op<;>simp[eqGuard]at hne1 hne2 ⊢
 split at h
 ·cases hx.v_inv;cases hy.v_inv
  obtain⟨hk,h⟩:=bif_some h;simp at hk;subst hk;split at h<;>simp at h<;>subst h<;>refine⟨_,?_,rfl,rfl⟩<;>simp[hg,binOp,Op.intArith,Op.intCmp]
 ·cases hx.v_inv;cases hy.v_inv
  split at h
  ·obtain⟨hk,h⟩:=bif_some h;simp at h;subst h;have hk':=Nat.le_of_ble_eq_true hk;refine⟨_,?_,rfl,rfl⟩;simp only[Sem.run_bind,hg,Result.andThen_ok,binOp,Op.stringOp];rw[if_neg (by show ¬(((_:Nat):Int)>9223372036854775807);omega)];rfl
  cases h
 cases h
theorem field_ok {t:TypeId} {x z:DV} {f:Nat} {a:Value} (h:fieldA P t x f=some z) (hx:Dat D w x a):
 ∃ v,(Instr.field t a f).run P w= .ok v w∧Dat D w z v∧(∀ l,z≠ .tu l):=by
 unfold fieldA at h;split at h
 ·rename_i fs cs hu;split at h
  ·rename_i fd hf;obtain⟨arr,rfl,hc⟩:=hx.ag_inv;obtain⟨v,h1,h2⟩:=part_ok (P:=P) (off:=fd.offset) hc h;exact⟨v,by simp[Instr.field,underlying_run hu,hf,asAgg,h1],h2⟩
  cases h
 cases h
theorem index_ok {t:TypeId} {x z:DV} {i:Int} {a:Value} {k:IntKind} (h:indexA P t x i=some z) (hx:Dat D w x a):
 ∃ v,(Instr.index t a (.int k i)).run P w= .ok v w∧Dat D w z v∧(∀ l,z≠ .tu l):=by
 unfold indexA at h;split at h
 ·rename_i len e cs hu;split at h
  ·rename_i n hn;obtain⟨hb,h⟩:=bif_some h;rw[Bool.and_eq_true,decide_eq_true_eq,decide_eq_true_eq]at hb;obtain⟨arr,rfl,hc⟩:=hx.ag_inv;obtain⟨v,h1,h2⟩:=part_ok (P:=P) (off:=i.toNat*n) hc h;exact⟨v,by simp[Instr.index,asIntOf,underlying_run hu,hb.1,hb.2,sizeOf_run hn,h1],h2⟩
  cases h
 ·rename_i s hu;cases hx.v_inv
  obtain⟨hb,h⟩:=bif_some h;rw[Bool.and_eq_true,decide_eq_true_eq,decide_eq_true_eq]at hb;simp only[Option.some.injEq]at h;subst h;have hlt:i.toNat<s.size:=(by omega);have hg:s[i.toNat]? =some (s.data.toList.getD i.toNat 0):=by
   rw[getElem?_pos s i.toNat hlt];congr 1;(show s.data[i.toNat]=_);have hlt':i.toNat<s.data.size:=hlt;rw[List.getD,Array.getElem?_toList,Array.getElem?_eq_getElem hlt'];rfl
  refine⟨_,?_,.v (x:= .int .u8 (s.data.toList.getD i.toNat 0).toNat) rfl,fun l=>by simp⟩;simp[Instr.index,asIntOf,underlying_run hu,hb.1,hg]
 cases h
theorem len_ok {t ty:TypeId} {x z:DV} {a:Value} (h:lenA P t x=some z) (hx:Dat D w x a): ∃ v,(Builtin.len_ #[t] ty #[a]).run P w= .ok v w∧z= .v v∧v.oneCell'=true:=by
 unfold lenA at h;split at h
 ·rename_i hu;cases hx.v_inv;simp at h;subst h
  exact⟨_,by simp[Builtin.len_,underlying_run hu,goInt],rfl,rfl⟩
 ·rename_i hu;rw[Option.map_eq_some_iff]at h;obtain⟨⟨o,n,r⟩,h,rfl⟩:=h;obtain⟨A,cap,rfl,_⟩:=asSl_ok h hx;exact⟨_,by simp[Builtin.len_,underlying_run hu,goInt],rfl,rfl⟩
 ·rename_i hu;simp at h;subst h;exact⟨_,by simp[Builtin.len_,underlying_run hu,goInt],rfl,rfl⟩
 cases h
theorem asInt_ok {x:DV} {v:Value} {n:Int} (h:asInt x=some n) (hd:Dat D w x v):v= .int .i64 n:=by
 unfold asInt at h;split at h
 ·simp at h;subst h;exact hd.v_inv
 cases h
theorem bound_run {n:Int} {y:Nat} {c:BoundsCode} (h0:0≤n) (h1:n≤y):(Instr.sliceBound (.int .i64 n) y c).run P w= .ok n.toNat w:=by
 simp[Instr.sliceBound,asIntOf,h0,h1]
theorem bounds_run {sl:Bool} {len cap:Nat} {lo hi:Option DV} {la ha:Option Value} {l h:Int} (hlo:loA lo=some l) (hhi:hiA len hi=some h) (h0:0≤l) (h1:l≤h) (h2:h≤len) (h3:len≤cap)
 (dl: ∀ x,lo=some x→ ∃ v,la=some v∧Dat D w x v) (dl0:lo=none→la=none) (dh: ∀ x,hi=some x→ ∃ v,ha=some v∧Dat D w x v) (dh0:hi=none→ha=none):
 (Instr.sliceBounds sl len cap la ha none).run P w= .ok (l.toNat,h.toNat,cap) w:=by
 have hl:(la=none∧l=0)∨la=some (.int .i64 l):=by
  cases lo with
  |none=>exact .inl ⟨dl0 rfl,by simpa [loA]using hlo.symm⟩
  |some x=>obtain⟨v,rfl,hd⟩:=dl x rfl;rw[asInt_ok hlo hd];exact .inr rfl
 have hh:(ha=none∧h=len)∨ha=some (.int .i64 h):=by
  cases hi with
  |none=>exact .inl ⟨dh0 rfl,by simpa [hiA]using hhi.symm⟩
  |some x=>obtain⟨v,rfl,hd⟩:=dh x rfl;rw[asInt_ok hhi hd];exact .inr rfl
 (have b1: ∀ c,(Instr.sliceBound (.int .i64 h) cap c).run P w= .ok h.toNat w:=fun c=>bound_run (by omega) (by omega));(have b2: ∀ c,(Instr.sliceBound (.int .i64 l) h.toNat c).run P w= .ok l.toNat w:=fun c=>bound_run h0 (by omega));clear dl dl0 dh dh0 hlo hhi;rcases hl with ⟨rfl,rfl⟩|rfl<;>rcases hh with ⟨rfl,rfl⟩|rfl<;>simp[Instr.sliceBounds,b1,b2]
 ·have:=b2 .sliceB;simp at this;simp[this]
theorem slice_ok {t : TypeId} {x z : DV} {lo hi : Option DV} {a : Value} {la ha : Option Value} (h : sliceA P t x lo hi = some z) (hx : Dat D w x a)
    (dl : ∀ x, lo = some x → ∃ v, la = some v ∧ Dat D w x v) (dl0 : lo = none → la = none) (dh : ∀ x, hi = some x → ∃ v, ha = some v ∧ Dat D w x v) (dh0 : hi = none → ha = none) :
    ∃ v, (Instr.sliceAt t a la ha none).run P w = .ok v w ∧ Dat D w z v ∧ (∀ l, z ≠ .tu l) ∧ ∀ p : Nat → Nat → Nat → Prop, OwnA p w z v := by
  unfold sliceA at h
  split at h
  · rename_i hu
    split at h
    · rename_i s
      split at h
      · rename_i hh ll h1 h2
        obtain ⟨hb, h⟩ := bif_some h
        simp only [Bool.and_eq_true, decide_eq_true_eq] at hb
        simp only [Option.some.injEq] at h; subst h
        cases hx.v_inv
        have hr := bounds_run (P := P) (sl := false) h2 h1 hb.1.1 hb.1.2 hb.2 (Nat.le_refl _) dl dl0 dh dh0
        exact ⟨_, by simp [Instr.sliceAt, Instr.slice, underlying_run hu, hr], .v rfl, fun l => by simp, fun p => by simp [OwnA, OwnS]⟩
      cases h
    cases h
  · rename_i e hu
    split at h
    · rename_i o n r m hs hn
      obtain ⟨hnm, h⟩ := bif_some h
      split at h
      · rename_i hh ll h1 h2
        obtain ⟨hb, h⟩ := bif_some h
        simp only [Bool.and_eq_true, decide_eq_true_eq] at hb
        simp only [Option.some.injEq] at h; subst h
        obtain ⟨A, cap, rfl, hd⟩ := asSl_ok hs hx
        have hcap : r.length ≤ cap := by cases hd; assumption
        have hr := bounds_run (P := P) (sl := true) h2 h1 hb.1.1 hb.1.2 hb.2 hcap dl dl0 dh dh0
        refine ⟨.slice (if cap = ll.toNat then A else A.map (·.add (ll.toNat * m))) (hh.toNat - ll.toNat) (cap - ll.toNat), by simp [Instr.sliceAt, Instr.slice, underlying_run hu, hr, sizeOf_run hn], ?_, fun l => by simp, fun p => by simp [OwnA, OwnS]⟩
        cases hd with
        | sl c hcap hrow hA hc hd =>
          have hlen : ((r.drop ll.toNat).take (hh.toNat - ll.toNat)).length = hh.toNat - ll.toNat := by simp; omega
          have hnm' : 0 < r.length → n = m := fun h => by
            rw [Bool.or_eq_true] at hnm
            rcases hnm with q | q
            · exact Nat.eq_of_beq_eq_true q
            have := (hA h).1; have := Nat.eq_of_beq_eq_true q; omega
          have key : Dat D w (.sl false n ((r.drop ll.toNat).take (hh.toNat - ll.toNat))) (.slice (if cap = ll.toNat then A else A.map (·.add (ll.toNat * m))) ((r.drop ll.toNat).take (hh.toNat - ll.toNat)).length (cap - ll.toNat)) := by
            refine .sl (fun q => c (ll.toNat * n + q)) (by rw [hlen]; omega) (fun q hq => hrow q (List.mem_of_mem_drop (List.mem_of_mem_take hq))) ?_ ?_ ?_
            · intro h0; rw [hlen] at h0
              obtain ⟨k0, b, o, rfl⟩ := hA (by omega)
              rw [if_neg (by omega)]
              exact ⟨k0, b, o + ll.toNat * m, by simp only [Option.map_some, Addr.add]; split <;> simp_all⟩
            · intro b o q he hq
              rw [hlen] at hq
              have h0 : 0 < hh.toNat - ll.toNat := by rcases Nat.eq_zero_or_pos (hh.toNat - ll.toNat) with h0 | h0; · rw [h0] at hq; simp at hq
                                                      · exact h0
              obtain ⟨k0, b', o', rfl⟩ := hA (by omega)
              rw [if_neg (by omega), ← hnm' (by omega)] at he
              have hadd : (⟨b', o', none⟩ : Addr).add (ll.toNat * n) = ⟨b', o' + ll.toNat * n, none⟩ := by unfold Addr.add; split <;> simp_all
              simp only [Option.map_some, hadd, Option.some.injEq, Addr.mk.injEq, and_true] at he
              obtain ⟨rfl, rfl⟩ := he
              have hlt : ll.toNat * n + q < r.length * n := by
                have : ll.toNat + (hh.toNat - ll.toNat) ≤ r.length := by omega
                have := Nat.mul_le_mul_right n this
                rw [Nat.add_mul] at this; omega
              have := hc b' o' (ll.toNat * n + q) rfl hlt
              rw [← Nat.add_assoc] at this; exact this
            intro i j row x hi hj
            rw [List.getElem?_take] at hi
            split at hi
            · rw [List.getElem?_drop] at hi
              have := hd (ll.toNat + i) j row x hi hj
              rw [Nat.add_mul, Nat.add_assoc] at this; exact this
            cases hi
          rw [hlen] at key; exact key
      cases h
    cases h
  cases h
end
end Go.Proofs.YtcfoebkbahpnaaaGreat.Ab
