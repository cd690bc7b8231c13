/- append. -/
import Derived.Test.YtcfoebkbahpnaaaGreatZAi
set_option linter.unusedVariables false
set_option linter.unusedSimpArgs false
namespace Go.Proofs.YtcfoebkbahpnaaaGreat.Ab
open Go

theorem cells_out (g:Nat): ∀ (us:List Value) (off:Nat) (w:World) (b:Nat),b≠g→(w.setCells g off us).heap[b]? =w.heap[b]?
 | [],_,_,_,_=>rfl
 |u::us,off,w,b,h=>by
  simp only[World.setCells];rw[cells_out g us _ _ b h];simp only[World.setCell,Array.getElem?_modify];rw[if_neg (Ne.symm h)]
theorem cells_in (g:Nat): ∀ (us:List Value) (off:Nat) (w:World) (cur:Array Value) (ty:TypeId),w.heap[g]? =some (.cells cur ty (0,0))→
 (w.setCells g off us).heap[g]? =some (.cells (over cur.toList off us).toArray ty (0,0))
 | [],_,w,cur,ty,h=>by simpa [World.setCells,over]using h
 |u::us,off,w,cur,ty,h=>by
  simp only[World.setCells,over];have h1:(w.setCell ⟨g,off,none⟩ u).heap[g]? =some (.cells (cur.setIfInBounds off u) ty (0,0)):=by
   simp[World.setCell,Array.getElem?_modify,h]
  rw[cells_in g us _ _ _ ty h1];simp
theorem cells_same (g:Nat): ∀ (us:List Value) (off:Nat) (w:World),(w.setCells g off us).os=w.os∧(w.setCells g off us).tape=w.tape∧(w.setCells g off us).output=w.output∧(w.setCells g off us).heap.size=w.heap.size
 | [],_,_=>⟨rfl,rfl,rfl,rfl⟩
 |u::us,off,w=>by
  simp only[World.setCells];obtain⟨h1,h2,h3,h4⟩:=cells_same g us (off+1) (w.setCell ⟨g,off,none⟩ u);exact⟨h1,h2,h3,by rw[h4];simp⟩
theorem sl_rows {D:Nat→Nat→Prop} {w:World} {o:Bool} {n:Nat} {r:List (List DV)} {v:Value} (h:Dat D w (.sl o n r) v):(∀ q ∈ r,q.length=n)∧(0<r.length→0<n):=by
 cases h with
 |sl c hcap hrow hA hc hd=>exact⟨hrow,fun h=>(hA h).1⟩
theorem own_ok {D:Nat→Nat→Prop} {p:Nat→Nat→Nat→Prop} {w:World} {x:DV} {v:Value} {m cap:Nat} {rx:List (List DV)} {A:Option Addr} (hax:asSl x=some (true,m,rx)) (hxd:Dat D w x v) (hxo:OwnA p w x v) (hv:v= .slice A rx.length cap):
 (A=none∧cap=0)∨ ∃ g cur e0,A=some ⟨g,0,none⟩∧w.heap[g]? =some (.cells cur e0 (0,0))∧cap≤maxLen∧cur.size=cap*m∧0<m∧ ∀ o,rx.length*m≤o→p 0 g o:=by
 subst hv;unfold asSl at hax;split at hax
 ·simp at hax;obtain⟨rfl,rfl,rfl⟩:=hax;rcases(show OwnS _ w (.sl true _ _) _ from hxo)with h|⟨g,cap',cur,e0,h,h1,h2,h3,h4,h5,h6⟩
  ·simp only[Value.slice.injEq]at h;exact .inl ⟨h.1,h.2.2⟩
  simp only[Value.slice.injEq]at h;obtain⟨rfl,_,rfl⟩:=h;exact .inr ⟨g,cur,e0,rfl,h1,h3,h4,h5,h6⟩
 ·have:=hxd.v_inv;simp only[Value.slice.injEq]at this;exact .inl ⟨this.1,this.2.2⟩
 cases hax
section
variable {who:Who} {μ:Nat→Option Nat} {w:World} {N n0:Nat} {fr:Fr} {a:Act} {ob:Ob} {P:Program} {o:Oper} {K:Act→World→Prop} {Q:Exit→Act→World→Prop}
theorem append_ok {t t' e' : TypeId} {s d : Nat} {y : Operand} {x z r : DV} (hI : Inv who μ w N fr a.tmps ob) (hd : o.dst = some d) (hN : d < N) (hsd : s ≠ d) (hs : fr s = .d x) (hy : evA fr y = .d z) (ht' : P.underlying t' = some (.slice e'))
    (hr : appA P t x z = some r) (he : o.op = .call { callee := .builtin .append, args := #[.tmp s, y], argTypes := #[t, t'] })
    (hk : StepK who μ w N n0 fr ob ⟨[(s, .d x.dis), (d, .d r)], [], []⟩ a.defers K) : o.wp P a w K Q := by
  unfold appA at hr
  split at hr
  case h_2 => cases hr
  rename_i e hu
  split at hr
  case h_2 => cases hr
  rename_i n by_ m rx o' m' ry hsz hby hax hay
  obtain ⟨hb, hr⟩ := bif_some hr
  simp only [Bool.and_eq_true, Bool.or_eq_true] at hb
  obtain ⟨⟨⟨⟨hz, hm⟩, hm'⟩, hbytes⟩, hlen⟩ := hb
  simp only [Option.some.injEq] at hr; subst hr
  have hbytes := Nat.le_of_ble_eq_true hbytes
  have hlen := Nat.le_of_ble_eq_true hlen
  -- the element's type
  cases hi : P.info? e with
  | none => rw [hi] at hby; cases hby
  | some i =>
  rw [hi] at hby; simp at hby
  have hisz : i.size = n + 1 := by unfold sizeT at hsz; rw [hi] at hsz; simpa using hsz
  obtain ⟨zv, hzv, hzl⟩ : ∃ zv, i.zero = some zv ∧ zv.cells.size = n + 1 := by
    split at hz
    · rename_i z0 hz0
      obtain ⟨v, _, h2, h3, i', h4, h5⟩ := zeroT_ok (D := Ro who) (w := w) hz0
      rw [hi] at h4; cases h4
      have := (h2.cells h3).1
      exact ⟨v, h5, by have := Nat.eq_of_beq_eq_true hz; simp at *; omega⟩
    cases hz
  have hxs := hI.slots s
  rw [hs] at hxs
  obtain ⟨hxd, hxo⟩ := hxs
  have hyd := evA_dat hI hy
  obtain ⟨A, cap, hxv, hxd'⟩ := asSl_ok hax hxd
  obtain ⟨B, capb, hyv, hyd'⟩ := asSl_ok hay hyd
  have hm1 : 0 < rx.length → m = n + 1 := fun h => by
    rcases hm with hm | hm
    · exact Nat.eq_of_beq_eq_true hm
    have h0 := Nat.eq_of_beq_eq_true hm; have := (sl_rows hxd').2 h; omega
  have hm1' : 0 < ry.length → m' = n + 1 := fun h => by
    rcases hm' with hm | hm
    · exact Nat.eq_of_beq_eq_true hm
    have h0 := Nat.eq_of_beq_eq_true hm; have := (sl_rows hyd').2 h; omega
  have hrowx : ∀ q ∈ rx, q.length = n + 1 := fun q hq => by
    rw [← hm1 (List.length_pos_of_mem hq)]; exact (sl_rows hxd').1 q hq
  have hrowy : ∀ q ∈ ry, q.length = n + 1 := fun q hq => by
    rw [← hm1' (List.length_pos_of_mem hq)]; exact (sl_rows hyd').1 q hq
  rw [hxv] at hxd'; rw [hyv] at hyd'
  obtain ⟨vx, hvx, hvxl, hvxc, hvxn, hvxa⟩ := sl_cells hxd'
  obtain ⟨vy, hvy, hvyl, hvyc, hvyn, hvya⟩ := sl_cells hyd'
  have hvyl' : vy.length = ry.length * i.size := by
    rw [hvyl, hisz]; rcases Nat.eq_zero_or_pos ry.length with h0 | h0
    · rw [h0, Nat.zero_mul, Nat.zero_mul]
    rw [hm1' h0]
  have hvxl' : vx.length = rx.length * i.size := by
    rw [hvxl, hisz]; rcases Nat.eq_zero_or_pos rx.length with h0 | h0
    · rw [h0, Nat.zero_mul, Nat.zero_mul]
    rw [hm1 h0]
  have hsrc : Src P i.size t' (a.eval y) ry.length vy w := by
    rw [hyv]
    cases B with
    | none =>
      have hn := hvyn rfl; subst hn
      have : vy = [] := List.length_eq_zero_iff.1 (by rw [hvyl']; simp)
      subst this; exact Src.ofNil w ht' capb
    | some ad =>
      refine Src.ofSlice w ht' ad ry.length capb vy hvyl' (fun j u hu' => ?_) hvy.2.1
      rcases Nat.eq_zero_or_pos ry.length with h0 | h0
      · have : vy = [] := List.length_eq_zero_iff.1 (by rw [hvyl', h0]; simp)
        subst this; simp at hu'
      have := hvya ad rfl h0
      rw [this]; exact hvyc ad.block ad.off (by rw [← this]) j u hu'
  have hev : a.eval (.tmp s) = .slice A rx.length cap := hxv
  -- the rows that come out
  have hrow : ∀ q ∈ rx ++ ry.map (·.map DV.dis1), q.length = n + 1 := fun q hq => by
    rcases List.mem_append.1 hq with h | h
    · exact hrowx q h
    obtain ⟨q', h1, rfl⟩ := List.mem_map.1 h; rw [List.length_map]; exact hrowy q' h1
  have hflat : (rx ++ ry.map (·.map DV.dis1)).flatten = rx.flatten ++ ry.flatten.map DV.dis1 := by
    rw [List.flatten_append, List.map_flatten]
  have hlenr : (rx ++ ry.map (·.map DV.dis1)).length = rx.length + ry.length := by simp
  have exec : ∀ v w', (Builtin.append_ #[t, t'] o.type #[.slice A rx.length cap, a.eval y]).run P w = .ok v w' → (execOp a.eval o).run P w = .ok (.value v) w' := fun v w' h => by
    rw [execOp, he]; simp only [resolve, invoke, builtin, Sem.run_bind, Sem.run_pure, Result.andThen_ok, List.map_toArray, List.map_cons, List.map_nil, hev, h]
  -- what is left to show of a result
  have fin : ∀ (who' : Who) (v : Value) (w' : World), (execOp a.eval o).run P w = .ok (.value v) w' → Pres who w who' w' → Fresh who' w' →
      Dat (Ro who') w' (.sl true (n + 1) (rx ++ ry.map (·.map DV.dis1))) v → OwnS (fun b o => who' b o = some (.slot d 0)) w' (.sl true (n + 1) (rx ++ ry.map (·.map DV.dis1))) v →
      (∀ t j b o, t ≠ s → t ≠ d → who b o = some (.slot t j) → who' b o = some (.slot t j)) → (∀ b o k, who b o = some (.blk k) → b < w.heap.size → who' b o = some (.blk k)) → (∀ b o k j, who b o = some (.cell k j) → b < w.heap.size → who' b o = some (.cell k j)) →
      (∀ b k, who b 0 = some (.blk k) → b < w.heap.size → w'.heap[b]? = w.heap[b]?) → o.wp P a w K Q := by
    intro who' v w' hrun hP hF h1 h2 h3 h4 h5 h6
    refine wp_value hrun ?_
    refine hk who' μ w' _ ?_ hP (fun _ _ => rfl) (by rw [hd]; rfl)
    refine hI.upd hP hF (by simp [Act.put, hd, hI.size]) (fun u => ?_) (fun u k off e => ?_) (hI.objs.pres hP (fun _ _ _ => rfl) (fun k cs b hcs hb hlt => ?_) (fun b o k hlt h => h4 b o k h hlt) (fun b o k j hlt h => h5 b o k j h hlt))
    · simp only [putL, Act.put, hd]
      rw [put_getD (by rw [hI.size]; exact hN)]
      by_cases e1 : u = d
      · subst e1; rw [Fr.put_same, if_pos rfl]; exact .inr ⟨h1, h2⟩
      rw [Fr.put_ne _ _ e1, if_neg e1]
      by_cases e2 : u = s
      · subst e2; rw [Fr.put_same]; exact .inr ⟨(hxd.pres hP).dis, OwnA.dis _ _⟩
      rw [Fr.put_ne _ _ e2]; exact .inl ⟨rfl, rfl, fun j b o _ h => h3 u j b o e2 e1 h, fun _ _ _ => by first | rfl | trivial⟩
    · simp only [putL] at e
      by_cases e1 : u = d
      · subst e1; rw [Fr.put_same] at e; cases e
      rw [Fr.put_ne _ _ e1] at e
      by_cases e2 : u = s
      · subst e2; rw [Fr.put_same] at e; cases e
      rw [Fr.put_ne _ _ e2] at e; exact hI.live u k off e
    obtain ⟨b', _, _, g1, _, _, _, g5, _⟩ := hI.objs k cs hcs
    have e3 : b = b' := by rw [hb] at g1; cases g1; rfl
    subst e3; exact h6 b k (g5 0) hlt
  have hownF := own_ok hax hxd hxo hxv
  by_cases hroom : rx.length + ry.length ≤ cap
  · -- there is room
    by_cases hnil : A = none
    · subst hnil
      have hx0 := hvxn rfl; subst hx0
      have hcap0 : cap = 0 := by
        rcases hownF with ⟨_, h⟩ | ⟨g, _, _, h, _⟩
        · exact h
        cases h
      have hy0 : ry = [] := List.length_eq_zero_iff.1 (by simp at hroom; omega)
      subst hy0
      have : vy = [] := List.length_eq_zero_iff.1 (by rw [hvyl']; simp)
      subst this
      have hrun : (Builtin.append_ #[t, t'] o.type #[.slice none 0 cap, a.eval y]).run P w = .ok (.slice none 0 cap) w := by
        have hl := hsrc.len
        have hc := hsrc.cells
        simp at hl hc
        simp [Builtin.append_, run_underlying hu, run_underlying ht', sizeOf, typeInfo, hi, hl, hc]
      refine fin who _ w (exec _ _ hrun) (Pres.refl hI.fresh) hI.fresh ?_ ?_ (fun _ _ _ _ _ _ h => h) (fun _ _ _ h _ => h) (fun _ _ _ _ h _ => h) (fun _ _ _ _ => rfl)
      · exact .sl (rows := []) (fun _ => undef) (by simp) (fun r hr => by cases hr) (fun h => by simp at h) (fun b o q e hq => by simp at hq) fun i j r x hx => by simp at hx
      exact .inl (by rw [hcap0])
    -- the block is the slice's own
    have hown := hownF.resolve_left (fun h => hnil h.1)
    obtain ⟨g, cur, e0, rfl, hg, hcm, hcs, hm0, hwho⟩ := hown
    have hmn : m = n + 1 := by
      rcases hm with hm | hm
      · exact Nat.eq_of_beq_eq_true hm
      have := Nat.eq_of_beq_eq_true hm; omega
    subst hmn
    have hfit : rx.length * i.size + vy.length ≤ cur.size := by rw [hvyl', hisz, hcs, ← Nat.add_mul]; exact Nat.mul_le_mul_right _ hroom
    have hrun := run_append_room_src (P := P) w t t' o.type e i hu hi g 0 rx.length cap (a.eval y) ry.length vy hsrc hroom
      (fun j hj => by simp [World.cell?, hg]; omega) (fun j hj => by simp [World.frozen?, hg])
    rw [Nat.zero_add] at hrun
    rw [hisz] at hrun hfit hvyl' hvxl'
    have hin := cells_in g vy (rx.length * (n + 1)) w cur e0 hg
    obtain ⟨c1, c2, c3, c4⟩ := cells_same g vy (rx.length * (n + 1)) w
    have hov := over_eq vy cur.toList (rx.length * (n + 1)) (by simpa using hfit)
    let who' : Who := fun b o => if b = g ∧ rx.length * (n + 1) ≤ o then (if o < (rx.length + ry.length) * (n + 1) then none else some (.slot d 0)) else who b o
    have hlow : ∀ o, o < rx.length * (n + 1) → (over cur.toList (rx.length * (n + 1)) vy)[o]? = cur[o]? := fun o ho => by
      rw [over_get _ _ _ _ (.inl ho)]; simp
    have hP : Pres who w who' (w.setCells g (rx.length * (n + 1)) vy) := by
      refine ⟨by rw [c4]; exact Nat.le_refl _, c1, c2, c3, fun b hb => ?_, fun b o hb h => ?_, fun b o hb => ?_, fun b o hb => ?_⟩
      · by_cases eb : b = g
        · subst eb
          rw [hin, hg]
          refine ⟨_, rfl, by simp [over_length], fun o ho => ?_⟩
          have : o < rx.length * (n + 1) := by
            rcases Nat.lt_or_ge o (rx.length * (n + 1)) with h | h
            · exact h
            have ho' : who b o = none ∨ who b o = some .rest := ho; rw [hwho o h] at ho'; simp at ho'
          simpa using hlow o this
        rw [cells_out g vy _ w b eb]; exact BP.refl _ _
      · simp only [who']; split
        · rename_i hc; rw [hc.1, hwho o hc.2] at h; cases h
        exact h
      · simp only [who']; split
        · rename_i hc; rw [hc.1, hwho o hc.2]; split <;> simp
        rfl
      simp only [who']; split
      · rename_i hc; have := heap_lt hg; omega
      rw [hI.fresh b o hb]; simp
    have hF : Fresh who' (w.setCells g (rx.length * (n + 1)) vy) := fun b o hb => by
      rw [c4] at hb
      simp only [who']; rw [if_neg (by intro hc; have := heap_lt hg; omega)]; exact hI.fresh b o hb
    refine fin who' _ _ (exec _ _ hrun) hP hF ?_ ?_ (fun u j b o h1 h2 h => ?_) (fun b o k h hlt => ?_) (fun b o k j h hlt => ?_) (fun b k h hlt => ?_)
    · have key : Dat (Ro who') (w.setCells g (rx.length * (n + 1)) vy) (.sl true (n + 1) (rx ++ ry.map (·.map DV.dis1))) (.slice (some ⟨g, 0, none⟩) (rx ++ ry.map (·.map DV.dis1)).length cap) := ?_
      · rw [hlenr] at key; exact key
      refine sl_mk (vs := vx ++ vy) (by rw [hlenr]; exact hroom) hrow (fun _ => by omega) ?_ (fun q hq => ?_)
      · rw [hflat]
        exact CV.append ⟨hvx.1, hvx.2.1, fun i x y hx hy => (hvx.2.2 i x y hx hy).pres hP⟩ ⟨by rw [List.length_map]; exact hvy.1, hvy.2.1, fun i x y hx hy => by
          rw [List.getElem?_map] at hx
          cases h : ry.flatten[i]? with
          | none => rw [h] at hx; simp at hx
          | some z' => rw [h] at hx; simp at hx; subst hx; exact ((hvy.2.2 i z' y h hy).pres hP).dis1⟩
      rw [hlenr] at hq
      rw [Nat.zero_add]
      by_cases hql : q < rx.length * (n + 1)
      · cases hxd' with
        | sl c hcap hrw hA hc hd0 =>
          obtain ⟨k1, k2, _⟩ := hc g 0 q rfl hql
          rw [Nat.zero_add] at k1 k2
          refine ⟨by simp only [Ro, who']; rw [if_neg (by omega)]; exact k1, fun v hv => ?_⟩
          rw [List.getElem?_append_left (by rw [hvxl']; exact hql)] at hv
          have := hvxc g 0 rfl q v hv
          have hadd : (⟨g, 0, none⟩ : Addr).add q = ⟨g, q, none⟩ := by unfold Addr.add; split <;> simp_all
          rw [hadd] at this
          rw [← this]; exact (hP.blk g (heap_lt hg)).cell (.inl k1)
      refine ⟨by simp only [Ro, who']; rw [if_pos ⟨by trivial, by omega⟩, if_pos hq], fun v hv => ?_⟩
      rw [List.getElem?_append_right (by rw [hvxl']; omega), hvxl'] at hv
      simp only [World.cell?, hin]
      simp only [Option.isSome_none, Bool.false_eq_true, if_false, List.getElem?_toArray]
      have ht : (List.take (rx.length * (n + 1)) cur.toList).length = rx.length * (n + 1) := by rw [List.length_take]; have hcl : cur.toList.length = cur.size := Array.length_toList; omega
      rw [Nat.add_mul] at hq
      rw [hov, List.getElem?_append_left (by rw [List.length_append, ht, hvyl']; omega), List.getElem?_append_right (by rw [ht]; omega), ht]
      exact hv
    · refine .inr ⟨g, cap, _, e0, by rw [hlenr], hin, by rw [hlenr]; exact hroom, hcm, by simp [over_length, hcs], by omega, fun o ho => ?_⟩
      rw [hlenr] at ho
      simp only [who']
      have : rx.length * (n + 1) ≤ o := by rw [Nat.add_mul] at ho; omega
      rw [if_pos ⟨by trivial, this⟩, if_neg (by omega)]
    · simp only [who']; split
      · rename_i hc; rw [hc.1, hwho o hc.2] at h; simp at h; exact absurd h.1.symm h1
      exact h
    · simp only [who']; split
      · rename_i hc; rw [hc.1, hwho o hc.2] at h; cases h
      exact h
    · simp only [who']; split
      · rename_i hc; rw [hc.1, hwho o hc.2] at h; cases h
      exact h
    refine cells_out g vy _ w b (fun eb => ?_)
    subst eb
    rcases Nat.eq_zero_or_pos rx.length with h0 | h0
    · rw [hwho 0 (by rw [h0]; simp)] at h; cases h
    cases hxd' with
    | sl c hcap hrw hA hc hd0 =>
      have := (hc b 0 0 rfl (Nat.mul_pos h0 (by omega))).1
      rw [show Ro who b (0 + 0) = (who b 0 = none) from rfl, h] at this; cases this
  -- there is none
  have hroom' : cap < rx.length + ry.length := by omega
  have hold : (Builtin.firstCells i.size rx.length (.slice A rx.length cap)).run P w.drew = .ok vx.toArray w.drew := by
    cases A with
    | none =>
      have hx0 := hvxn rfl; subst hx0
      have : vx = [] := List.length_eq_zero_iff.1 (by rw [hvxl]; simp)
      subst this; rfl
    | some ad =>
      refine run_firstCells_some w.drew i.size rx.length ad rx.length cap vx hvxl' (fun j v hv => ?_)
      rcases Nat.eq_zero_or_pos rx.length with h0 | h0
      · have : vx = [] := List.length_eq_zero_iff.1 (by rw [hvxl, h0]; simp)
        subst this; simp at hv
      have := hvxa ad rfl h0
      rw [World.cell?_drew, this]; exact hvxc ad.block ad.off (by rw [← this]) j v hv
  have hml : rx.length + ry.length ≤ maxLen := by unfold maxLen; omega
  have hrun := run_append_grow_src (P := P) w t t' o.type e i zv hu hi hzv A rx.length cap vx hold (a.eval y) ry.length vy hsrc hroom' (by omega) (growslice_fits hroom' (by rw [hby]; exact hbytes))
  have hge := grownCap_ge w (rx.length + ry.length) cap e
  have hcm := grownCap_le_maxLen w (rx.length + ry.length) cap e hml
  generalize grownCap w (rx.length + ry.length) cap e = nc at hrun hge hcm
  let f : Nat → Option Pl := fun o' => if o' < (rx.length + ry.length) * (n + 1) then none else some (.slot d 0)
  have hheap : (w.drew.alloc (.cells ((vx ++ vy).toArray ++ Builtin.zeroCells zv.cells (nc - (rx.length + ry.length))) e)).heap = w.heap.push (.cells ((vx ++ vy).toArray ++ Builtin.zeroCells zv.cells (nc - (rx.length + ry.length))) e) := rfl
  have hP : Pres who w (fresh1 who w.heap.size f) (w.drew.alloc (.cells ((vx ++ vy).toArray ++ Builtin.zeroCells zv.cells (nc - (rx.length + ry.length))) e)) := Pres.push hI.fresh (fun o => by simp only [f]; split <;> simp) hheap rfl rfl rfl
  have hF := hI.fresh.push (f := f) hheap
  rw [hisz] at hvyl' hvxl'
  have hnew := heap_alloc_new w.drew (.cells ((vx ++ vy).toArray ++ Builtin.zeroCells zv.cells (nc - (rx.length + ry.length))) e)
  refine fin _ _ _ (exec _ _ hrun) hP hF ?_ ?_ (fun u j b o h1 h2 h => ?_) (fun b o k h hlt => by rw [fresh1_old hlt]; exact h) (fun b o k j h hlt => by rw [fresh1_old hlt]; exact h) (fun b k h hlt => heap_alloc_old w.drew _ _ hlt)
  · have key : Dat (Ro (fresh1 who w.heap.size f)) (w.drew.alloc (.cells ((vx ++ vy).toArray ++ Builtin.zeroCells zv.cells (nc - (rx.length + ry.length))) e)) (.sl true (n + 1) (rx ++ ry.map (·.map DV.dis1))) (.slice (some ⟨w.heap.size, 0, none⟩) (rx ++ ry.map (·.map DV.dis1)).length nc) := ?_
    · rw [hlenr] at key; exact key
    refine sl_mk (vs := vx ++ vy) (by rw [hlenr]; exact hge) hrow (fun _ => by omega) ?_ (fun q hq => ?_)
    · rw [hflat]
      exact CV.append ⟨hvx.1, hvx.2.1, fun i x y hx hy => (hvx.2.2 i x y hx hy).pres hP⟩ ⟨by rw [List.length_map]; exact hvy.1, hvy.2.1, fun i x y hx hy => by
        rw [List.getElem?_map] at hx
        cases h : ry.flatten[i]? with
        | none => rw [h] at hx; simp at hx
        | some z' => rw [h] at hx; simp at hx; subst hx; exact ((hvy.2.2 i z' y h hy).pres hP).dis1⟩
    rw [hlenr] at hq
    refine ⟨by show (if w.heap.size = w.heap.size then f (0 + q) else who _ _) = none; rw [if_pos rfl, Nat.zero_add]; exact if_pos hq, fun v hv => ?_⟩
    rw [Nat.zero_add]
    have hq2 : q < (vx ++ vy).length := (List.getElem?_eq_some_iff.1 hv).1
    simp only [World.cell?]
    rw [show w.heap.size = w.drew.heap.size from rfl, hnew]
    simp only [Option.isSome_none, Bool.false_eq_true, if_false]
    rw [Array.getElem?_append_left (by simpa using hq2)]; simpa using hv
  · refine .inr ⟨w.heap.size, nc, _, e, by rw [hlenr], hnew, by rw [hlenr]; exact hge, hcm, ?_, by omega, fun o' ho' => ?_⟩
    · rw [Array.size_append, size_zeroCells, hzl]
      simp only [List.size_toArray, List.length_append, hvxl', hvyl', ← Nat.add_mul]
      congr 1; omega
    rw [hlenr] at ho'
    show (if w.heap.size = w.heap.size then f o' else who _ o') = _
    rw [if_pos rfl]; show (if o' < _ then _ else _) = _; rw [if_neg (by omega)]
  by_cases hlt : b < w.heap.size
  · rw [fresh1_old hlt]; exact h
  rw [hI.fresh b o (by omega)] at h; cases h
end
end Go.Proofs.YtcfoebkbahpnaaaGreat.Ab
