/- Loads and stores of objects; append. -/
import Derived.Test.YtcfoebkbahpnaaaGreatZAh
set_option linter.unusedVariables false
set_option linter.unusedSimpArgs false
namespace Go.Proofs.YtcfoebkbahpnaaaGreat.Ab
open Go

theorem Pres.row {who who':Who} {w:World} (hf:Fresh who w) {g:Nat} {cur cs:Array Value} {ty:TypeId} (hg:w.heap[g]? =some (.cells cur ty (0,0))) (hs:cs.size=cur.size)
 (hk: ∀ o,who g o=none∨who g o=some .rest→cs[o]? =cur[o]?) (hro: ∀ b o,who b o=none→who' b o=none) (hr: ∀ b o,who b o=some .rest ↔ who' b o=some .rest):Pres who w who' (w.setRow g cs) where
 size:=by simp[World.setRow]
 os:=rfl
 tape:=rfl
 output:=rfl
 blk b hb:=by
  by_cases e:b=g
  ·subst e;rw[setRow_heap w b cur cs ty (0,0) hg,hg];exact⟨cs,rfl,hs,hk⟩
  rw[setRow_other w g b cs e];exact BP.refl _ _
 ro b o _ e:=hro b o e
 rest b o _:=hr b o
 new b o hb e:=by have:=(hr b o).2 e;rw[hf b o hb]at this;cases this
section
variable {who:Who} {μ:Nat→Option Nat} {w:World} {N n0:Nat} {fr:Fr} {a:Act} {ob:Ob} {q:Delta} {P:Program} {o:Oper} {K:Act→World→Prop} {Q:Exit→Act→World→Prop}
theorem ObjR.ca {k:Nat} {cs:List DV} {b:Nat} (h:ObjR who μ w k cs) (hb:μ k=some b):CA (Ro who) w b 0 cs:=by
 obtain⟨b',arr,ty,h1,h2,h3,h4,h5,h6⟩:=h;have e:b=b':=by rw[hb]at h1;cases h1;rfl
 subst e;intro q x hx;have hq:q<arr.size:=(by rw[h3];exact(List.getElem?_eq_some_iff.1 hx).1);refine⟨arr[q],by simp[World.cell?,h2,hq],h4 _ (by simp),(h6 q x arr[q] hx (by simp[hq])).1⟩
theorem loadPt_ok {G : Cfg} {rs : List Nat} {ops : List Oper} {t : TypeId} {x : Operand} (hI : Inv who μ w N fr a.tmps ob) (hN : ∀ d, o.dst = some d → d < N) (hq : loadA G rs ops o.dst t (evA fr x) ob = some q)
    (he : o.op = .load t x) (hk : StepK who μ w N n0 fr ob q a.defers K) : o.wp G.P a w K Q := by
  unfold loadA at hq
  split at hq
  · rename_i cs hx
    rw [Option.bind_eq_some_iff] at hq
    obtain ⟨z, hz, hq⟩ := hq
    have hd : (evA fr x).dis = .el cs := by rw [hx]; rfl
    have := evA_dis hI x (.slot 0)
    rw [hd] at this
    obtain ⟨b, off, hv, c, hc⟩ := this
    have hca : CA (Ro who) w b off cs := fun q x hx => ⟨c q, (hc q x hx).2.1, (hc q x hx).2.2.1, (hc q x hx).2.2.2⟩
    obtain ⟨v, h1, h2, h3⟩ := load_ok (P := G.P) hca hz
    exact retD_ok hI hN hq h2 (part_own hz h3) (by rw [execOp, he]; simp [hv, Instr.loadAt, Instr.sureAddr, h1]) hk
  · rename_i k off hx
    obtain ⟨⟨b, hb, hv⟩, _⟩ := evA_pt hI hx
    split at hq
    case h_2 => cases hq
    rename_i cs hcs
    have hO := hI.objs k cs hcs
    have hca := hO.ca hb
    cases hw : wantsO G rs o.dst ops with
    | false =>
      rw [hw] at hq
      simp only [cond_false, Option.map_eq_some_iff, Option.bind_eq_some_iff] at hq
      obtain ⟨q', ⟨z, hz, hq'⟩, rfl⟩ := hq
      obtain ⟨v, h1, h2, h3⟩ := load_ok (P := G.P) (hca.drop off) hz
      rw [Nat.zero_add] at h1
      refine retD_ok (q := q') (n0 := n0) hI hN hq' h2 (part_own hz h3) (by rw [execOp, he]; simp [hv, Instr.loadAt, Instr.sureAddr, h1]) ?_
      exact fun who' μ' w' a' h => hk who' μ' w' a' (by have e : q'.ob = [] := by unfold retD ret1 at hq'; split at hq' <;> simp at hq' <;> subst hq' <;> rfl
                                                        simpa [e] using h)
    | true =>
      rw [hw] at hq
      simp only [cond_true] at hq
      split at hq
      case h_2 => cases hq
      rename_i y d ha hs hy hd
      simp at hq; subst hq
      obtain ⟨b', arr, ty, h1, h2, h3, h4, h5, h6⟩ := hO
      have e : b = b' := by rw [hb] at h1; cases h1; rfl
      subst e
      have hlt : off < cs.length := (List.getElem?_eq_some_iff.1 hy).1
      have hu : arr[off]? = some arr[off] := by simp [h3, hlt]
      obtain ⟨hyd, hyo⟩ := h6 off y arr[off] hy hu
      have hone := h4 arr[off] (by simp)
      have hrun : (loadVar t ⟨b, off, none⟩).run G.P w = .ok arr[off] w := by
        have hc : w.cell? ⟨b, off, none⟩ = some arr[off] := by simp [World.cell?, h2, h3, hlt]
        simp [loadVar, isAgg_run ha, hc]
      refine wp_value (v := arr[off]) (w' := w) (by rw [execOp, he]; simp [hv, Instr.loadAt, Instr.sureAddr, hrun]) ?_
      let f : Pl → Pl := fun p => match p with | .cell k' j => if k' = k ∧ j = off then .slot d 0 else .cell k' j | p => p
      have hf : ∀ p, f p = .rest ↔ p = .rest := by intro p; cases p <;> simp [f]; split <;> simp
      have hP := Pres.relab hI.fresh hf
      have hkl : k < ob.length := (List.getElem?_eq_some_iff.1 hcs).1
      refine hk (relab who f) μ w _ ?_ hP (fun _ _ => rfl) (by rw [hd]; rfl)
      refine hI.upd hP (hI.fresh.relab f) (by simp [Act.put, hd, hI.size]) (fun u => ?_) (fun u k' off' e => ?_) (fun k' cs' hk' => ?_)
      · simp only [putL, Act.put, hd]
        rw [put_getD (by rw [hI.size]; exact hN d hd)]
        by_cases e2 : u = d
        · subst e2; rw [Fr.put_same, if_pos rfl]
          refine .inr ⟨hyd.pres hP, ?_⟩
          have h0 := hyo.pres (p' := fun b o => relab who f b o = some (.slot u 0)) hP (fun b o _ h => by simp [relab, h, f])
          cases y with
          | tu l => generalize arr[off] = v at hyd hone; cases hyd; simp [Value.oneCell'] at hone
          | v z => exact h0
          | ag z => exact h0
          | sl z1 z2 z3 => exact h0
        rw [Fr.put_ne _ _ e2, if_neg e2]
        refine .inl ⟨rfl, rfl, fun j b o _ h => by simp [relab, h, f], ?_⟩; intros; first | rfl | trivial
      · simp only [putL] at e
        simp only [setL]; rw [ofOb_set hkl]
        by_cases e2 : u = d
        · subst e2; rw [Fr.put_same] at e; cases e
        rw [Fr.put_ne _ _ e2] at e
        split
        · exact ⟨_, rfl⟩
        exact hI.live u k' off' e
      simp only [setL] at hk'
      rw [ofOb_set hkl] at hk'
      split at hk'
      · rename_i e; subst e; simp at hk'; subst hk'
        refine ⟨b, arr, ty, hb, h2, by simpa using h3, h4, fun o => by simp [relab, h5 o, f], fun j x' y' hx' hy' => ?_⟩
        rw [List.getElem?_set] at hx'
        split at hx'
        · rename_i e; subst e; simp at hx'; obtain ⟨_, rfl⟩ := hx'
          exact ⟨((h6 _ y y' hy hy').1.pres hP).dis1, OwnS.dis1 _ _⟩
        rename_i hne
        exact ⟨(h6 j x' y' hx' hy').1.pres hP, (h6 j x' y' hx' hy').2.pres hP (fun b o _ h => by simp [relab, h, f, Ne.symm hne])⟩
      rename_i hne
      exact ObjR.pres hP rfl (fun b _ => ⟨rfl, fun o h => by simp [relab, h, f]⟩) (fun j b o _ h => by simp [relab, h, f, hne]) (hI.objs k' cs' hk')
  cases hq

theorem over_get: ∀ (us vs:List Value) (o i:Nat),(i<o∨o+us.length≤i)→(over vs o us)[i]? =vs[i]?
 | [],vs,o,i,h=>rfl
 |u::us,vs,o,i,h=>by
  simp only[over];rw[over_get us _ (o+1) i (by simp at h;omega),List.getElem?_set];rw[if_neg (by simp at h;omega)]
theorem over_eq: ∀ (us vs:List Value) (o:Nat),o+us.length≤vs.length→over vs o us=vs.take o++us++vs.drop (o+us.length)
 | [],vs,o,h=>by simp[over]
 |u::us,vs,o,h=>by
  simp only[over];simp at h;rw[over_eq us _ (o+1) (by simp;omega)];exact list_seg_step vs o u us (by omega)
theorem CV.czK {own:Bool} {ks:List CK} {cs:List DV} {vs:List Value} {D:Nat→Nat→Prop} {w:World} (h:CV D w cs vs):CV D w (Ab.czK own ks cs) vs:=
 ⟨by rw[czK_len];exact h.1,h.2.1,fun i x y hx hy=>by
  obtain⟨x0,hx0,he⟩:=czK_get own ks cs i x hx;have h1:=h.2.2 i x0 y hx0 hy;rcases he with rfl|⟨n,rfl,rfl⟩
  ·exact h1
  have:=h1.v_inv;subst this;exact nil_dat⟩
theorem store_ok {G : Cfg} {c : FC} {t : TypeId} {pa x : Operand} (hI : Inv who μ w N fr a.tmps ob) (hd : o.dst = none) (hq : storeA G c t (evA fr pa) x fr ob = some q)
    (he : o.op = .store t pa x) (hk : StepK who μ w N n0 fr ob q a.defers K) : o.wp G.P a w K Q := by
  unfold storeA at hq
  split at hq
  case h_2 => cases hq
  rename_i k off y hp hy
  obtain ⟨⟨b, hb, hv⟩, _⟩ := evA_pt hI hp
  have hyd := evA_dat hI hy
  split at hq
  case h_2 => cases hq
  rename_i cs n hcs hn
  obtain ⟨hyn, hq⟩ := bif_some hq
  have hyn := Nat.eq_of_beq_eq_true hyn
  obtain ⟨b', arr, ty, h1, h2, h3, h4, h5, h6⟩ := hI.objs k cs hcs
  have e : b = b' := by rw [hb] at h1; cases h1; rfl
  subst e
  have hkl : k < ob.length := (List.getElem?_eq_some_iff.1 hcs).1
  -- what is stored
  have main : ∀ (ys cs' : List DV) (sl : List (Nat × AV)) (f : Pl → Pl), (∀ l, y ≠ .tu l) → setAt cs off ys = some cs' → CV (Ro who) w ys (a.eval x).cells.toList → q = ⟨sl, [(k, cs')], [k]⟩ →
      (∀ p, f p = .rest ↔ p = .rest) → (∀ k, f (.blk k) = .blk k) → (∀ k' j, f (.cell k' j) = .cell k' j) →
      (∀ i z u, ys[i]? = some z → (a.eval x).cells.toList[i]? = some u → ∀ w', Pres who w (relab who f) w' → OwnS (fun b o => relab who f b o = some (.cell k (off + i))) w' z u) →
      (∀ w', Pres who w (relab who f) w' → ∀ t, ((putL fr sl) t = fr t ∧ (∀ j, f (.slot t j) = .slot t j)) ∨ AR (relab who f) μ w' (.slot t) (putL fr sl t) (a.tmps.getD t undef) ∧ ∀ k off, putL fr sl t ≠ .pt k off) → o.wp G.P a w K Q := by
    intro ys cs' sl f hnt hset hcv hqe hf1 hf2 hf3 hown hslots
    subst hqe
    have hle := setAt_len _ _ _ _ hset
    have hyl : (a.eval x).cells.size = ys.length := by have := hcv.1; simpa using this
    have hcells := hyd.cells hnt
    have hsz : (a.eval x).cells.size = n := by have := hcells.1; simp at this; omega
    have hlen : off + (a.eval x).cells.toList.length ≤ arr.size := by simp; omega
    have hst := run_storeCells_at G.P b off ty (a.eval x).cells.toList 0 arr w h2 (by simpa using hlen) hcells.2.1
    rw [Nat.add_zero, ← over_eq _ _ _ (by simpa using hlen)] at hst
    have hrun : (storeVar t ⟨b, off, none⟩ (a.eval x)).run G.P w = .ok () (w.setRow b (over arr.toList off (a.eval x).cells.toList).toArray) := by
      simp [storeVar, sizeOf_run hn, hsz, hst]
    refine wp_skip' (w' := w.setRow b (over arr.toList off (a.eval x).cells.toList).toArray) (by rw [execOp, he]; simp [hv, Instr.storeAt, Instr.sureAddr, hrun]) ?_
    have hP : Pres who w (relab who f) (w.setRow b (over arr.toList off (a.eval x).cells.toList).toArray) := Pres.row hI.fresh h2 (by simp [over_length]) (fun o ho => by rw [h5 o] at ho; simp at ho)
      (fun b o h => by simp [relab, h]) (fun b o => by
        simp only [Ab.relab, Option.map_eq_some_iff]
        exact ⟨fun e => ⟨_, e, (hf1 _).2 rfl⟩, fun ⟨p, e, hp⟩ => by rw [e, (hf1 p).1 hp]⟩)
    have hF : Fresh (relab who f) (w.setRow b (over arr.toList off (a.eval x).cells.toList).toArray) := fun b o hb => (hI.fresh.relab f) b o (by simpa [World.setRow] using hb)
    refine hk (relab who f) μ _ _ ?_ hP (fun _ _ => rfl) (by rw [hd]; rfl)
    refine hI.upd hP hF (by rw [hd]; exact hI.size) (fun u => ?_) (fun u k' off' e => ?_) (fun k' cs'' hk' => ?_)
    · rw [hd]
      rcases hslots _ hP u with ⟨e1, e2⟩ | ⟨h, _⟩
      · exact .inl ⟨e1, rfl, fun j b o _ h => by simp [relab, h, e2 j], fun _ _ _ => rfl⟩
      exact .inr h
    · simp only [setL]; rw [ofOb_set hkl]
      rcases hslots _ hP u with ⟨e1, e2⟩ | ⟨_, h⟩
      · rw [e1] at e; split
        · exact ⟨_, rfl⟩
        exact hI.live u k' off' e
      exact absurd e (h k' off')
    simp only [setL] at hk'
    rw [ofOb_set hkl] at hk'
    split at hk'
    · rename_i e; subst e; simp at hk'; subst hk'
      have hcv0 : CV (Ro who) w cs arr.toList := ⟨by simpa using h3, fun y hy => h4 y (by simpa using hy), fun i x y hx hy => (h6 i x y hx (by simpa using hy)).1⟩
      have hcv1 := setAt_ok _ _ _ _ _ _ hset hcv0 hcv
      refine ⟨b, _, ty, hb, setRow_heap w b arr _ ty (0, 0) h2, by simpa using hcv1.1, fun y hy => hcv1.2.1 y (by simpa using hy), fun o => by simp [relab, h5 o, hf2], fun j x' y' hx' hy' => ?_⟩
      have hy'' : (over arr.toList off (a.eval x).cells.toList)[j]? = some y' := by simpa using hy'
      refine ⟨(hcv1.2.2 j x' y' hx' hy'').pres hP, ?_⟩
      have hsg : ∀ (cs : List DV) (off : Nat) (ys cs' : List DV), setAt cs off ys = some cs' → ∀ (vs us : List Value), us.length = ys.length → off + us.length ≤ vs.length → ∀ (j : Nat) x' y', cs'[j]? = some x' → (over vs off us)[j]? = some y' →
          (cs[j]? = some x' ∧ vs[j]? = some y') ∨ ∃ i, j = off + i ∧ ys[i]? = some x' ∧ us[i]? = some y' := by
        intro cs
        induction cs with
        | nil => intro off ys cs' h vs us hl hle j x' y' hx hy; cases off <;> cases ys <;> simp [setAt] at h; subst h; simp at hx
        | cons c cs ih =>
          intro off ys cs' h vs us hl hle j x' y' hx hy
          cases off with
          | zero =>
            cases ys with
            | nil => simp [setAt] at h; subst h; simp at hl; subst hl; exact .inl ⟨hx, hy⟩
            | cons z zs =>
              simp only [setAt, Option.map_eq_some_iff] at h; obtain ⟨l, hl', rfl⟩ := h
              cases us with
              | nil => simp at hl
              | cons u us =>
                cases vs with
                | nil => simp at hle
                | cons v vs =>
                  simp only [over, List.set_cons_zero] at hy
                  rw [over_cons] at hy
                  cases j with
                  | zero => simp at hx hy; subst hx hy; exact .inr ⟨0, rfl, rfl, rfl⟩
                  | succ j =>
                    simp at hx hy
                    rcases ih 0 zs l hl' vs us (by simpa using hl) (by simp at hle ⊢; omega) j x' y' hx hy with h | ⟨i, h1, h2, h3⟩
                    · exact .inl (by simpa using h)
                    exact .inr ⟨i + 1, by omega, by simpa using h2, by simpa using h3⟩
          | succ off =>
            simp only [setAt, Option.map_eq_some_iff] at h; obtain ⟨l, hl', rfl⟩ := h
            cases vs with
            | nil => simp at hle
            | cons v vs =>
              rw [over_cons] at hy
              cases j with
              | zero => simp at hx hy; subst hx hy; exact .inl ⟨rfl, rfl⟩
              | succ j =>
                simp at hx hy
                rcases ih off ys l hl' vs us hl (by simp at hle; omega) j x' y' hx hy with h | ⟨i, h1, h2, h3⟩
                · exact .inl (by simpa using h)
                exact .inr ⟨i, by omega, h2, h3⟩
      rcases hsg _ _ _ _ hset arr.toList (a.eval x).cells.toList (by simpa using hyl) (by simpa using hlen) j x' y' hx' hy'' with ⟨q1, q2⟩ | ⟨i, rfl, q1, q2⟩
      · exact (h6 j x' y' q1 (by simpa using q2)).2.pres hP (fun b o _ h => by simp [relab, h, hf3])
      exact hown i x' y' q1 q2 _ hP
    rename_i hne
    refine ObjR.pres hP rfl (fun b2 hb2 => ⟨?_, fun o h => by simp [relab, h, hf2]⟩) (fun j b o _ h => by simp [relab, h, hf3]) (hI.objs k' cs'' hk')
    refine setRow_other w b b2 _ (fun e => ?_)
    subst e
    obtain ⟨b3, _, _, g1, _, _, _, g5, _⟩ := hI.objs k' cs'' hk'
    have e3 : b2 = b3 := by rw [hb2] at g1; cases g1; rfl
    subst e3
    have := (h5 0).symm.trans (g5 0); simp at this; exact hne this.symm
  have hdis : ∀ ys cs', (∀ l, y ≠ .tu l) → setAt cs off (ys.map DV.dis1) = some cs' → CV (Ro who) w ys (a.eval x).cells.toList → q = ⟨[], [(k, cs')], [k]⟩ → o.wp G.P a w K Q := fun ys cs' hnotu hset hcv hqe =>
    main (ys.map DV.dis1) cs' [] id hnotu hset hcv.dis1 hqe (fun _ => Iff.rfl) (fun _ => rfl) (fun _ _ => rfl) (fun i z u hz hu w' hP => by
      rw [List.getElem?_map] at hz
      cases h : ys[i]? with
      | none => rw [h] at hz; simp at hz
      | some z' => rw [h] at hz; simp at hz; subst hz; exact OwnS.dis1 _ _) (fun w' hP t => .inl ⟨rfl, fun _ => rfl⟩)
  have hczk : ∀ ys cs', (∀ l, y ≠ .tu l) → setAt cs off (Ab.czK true (kindsT G.P 8 t) (ys.map DV.dis1)) = some cs' → CV (Ro who) w ys (a.eval x).cells.toList → q = ⟨[], [(k, cs')], [k]⟩ → o.wp G.P a w K Q := fun ys cs' hnotu hset hcv hqe =>
    main (Ab.czK true (kindsT G.P 8 t) (ys.map DV.dis1)) cs' [] id hnotu hset hcv.dis1.czK hqe (fun _ => Iff.rfl) (fun _ => rfl) (fun _ _ => rfl) (fun i z u hz hu w' hP => by
      obtain ⟨x0, hx0, he⟩ := czK_get true _ _ i z hz
      rcases he with rfl | ⟨n, rfl, rfl⟩
      · rw [List.getElem?_map] at hx0
        cases h : ys[i]? with
        | none => rw [h] at hx0; simp at hx0
        | some z' => rw [h] at hx0; simp at hx0; subst hx0; exact OwnS.dis1 _ _
      have h1 := hcv.dis1.2.2 i _ u hx0 hu
      have := h1.v_inv; subst this; exact .inl rfl) (fun w' hP t => .inl ⟨rfl, fun _ => rfl⟩)
  split at hq
  · cases hq
  · rename_i so sm sr s _ _
    have hnt : ∀ l, DV.sl so sm sr ≠ .tu l := fun l => by simp
    have hcell1 : CV (Ro who) w [.sl so sm sr] (a.eval (.tmp s)).cells.toList := hyd.cells hnt
    cases hm : mem s c.live with
    | true =>
      rw [hm] at hq; simp only [cond_true, Option.map_eq_some_iff] at hq
      obtain ⟨cs', hset, rfl⟩ := hq
      exact hdis [.sl so sm sr] cs' hnt hset hcell1 rfl
    | false =>
      rw [hm] at hq; simp only [cond_false, Option.map_eq_some_iff] at hq
      obtain ⟨cs', hset, rfl⟩ := hq
      have hsl := hI.slots s
      have hfs : fr s = .d (.sl so sm sr) := hy
      rw [hfs] at hsl
      let f : Pl → Pl := fun p => match p with | .slot t' j => if t' = s ∧ j = 0 then .cell k off else .slot t' j | p => p
      refine main [.sl so sm sr] cs' _ f hnt hset hcell1 rfl (fun p => by cases p <;> simp [f]; split <;> simp) (fun _ => rfl) (fun _ _ => rfl) (fun i z u hz hu w' hP => ?_) (fun w' hP t => ?_)
      · cases i with
        | succ i => simp at hz
        | zero =>
          simp at hz; subst hz
          have hu' : u = a.tmps.getD s undef := by
            have : (a.eval (.tmp s)) = a.tmps.getD s undef := rfl
            rw [this] at hu hyd
            generalize a.tmps.getD s undef = v at hu hyd
            cases hyd; simp [Value.cells] at hu; exact hu.symm
          subst hu'
          exact (show OwnS (fun b o => who b o = some (.slot s 0)) w (.sl so sm sr) _ from hsl.2).pres hP (fun b o _ h => by simp [relab, h, f])
      by_cases e : t = s
      · subst e
        right
        simp only [putL, Fr.put_same]
        exact ⟨⟨(hsl.1.pres hP).dis, by simp [OwnA, OwnS]⟩, fun _ _ => by simp⟩
      left
      simp only [putL, Fr.put_ne _ _ e]
      exact ⟨by first | rfl | trivial, fun j => by simp [f, e]⟩
  rename_i hnt1 hnt2
  simp only [Option.map_eq_some_iff] at hq
  obtain ⟨cs', hset, rfl⟩ := hq
  exact hczk _ cs' (fun l e => hnt1 l e) hset (hyd.cells (fun l e => hnt1 l e)) rfl
end
end Go.Proofs.YtcfoebkbahpnaaaGreat.Ab
