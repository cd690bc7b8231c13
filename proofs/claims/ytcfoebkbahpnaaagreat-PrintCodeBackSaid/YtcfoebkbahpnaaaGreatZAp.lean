/- The readings in continuation style are those of the operations. -/
import Derived.Test.YtcfoebkbahpnaaaGreatZAl
set_option linter.unusedVariables false
set_option linter.unusedSimpArgs false
namespace Go.Proofs.YtcfoebkbahpnaaaGreat.Ab
open Go

theorem retD_rd {dst:Option Tmp} {x:AV} {q:Delta} (h:ret1 dst x=some q):q.rd= []∧q.ob= []∧(∀ p ∈ q.sl,dst=some p.1):=by
 unfold ret1 at h;split at h<;>simp at h<;>subst h
 ·exact⟨rfl,rfl,fun p hp=>by simp at hp;subst hp;rfl⟩
 exact⟨rfl,rfl,fun p hp=>by simp at hp⟩
def CR (x y : DV) : Prop := ∀ D w v, Dat D w x v → Dat D w y v
theorem CR.refl (x:DV):CR x x:=fun _ _ _ h=>h
theorem Dat.undis1 {D:Nat→Nat→Prop} {w:World} {x:DV} {v:Value} (h:Dat D w x.dis1 v):Dat D w x v:=by
 cases x with
 |sl a b r=>simp only[DV.dis1]at h;cases h with|sl c a b cc d e=>exact .sl c a b cc d e
 |_=>exact h
theorem CR.dis1 {x y:DV} (h:CR x y):CR x.dis1 y.dis1:=fun D w v hd=>(h D w v hd.undis1).dis1
def ConfR (cs l : List DV) : Prop := l.length ≤ cs.length ∧ ∀ (i : Nat) x y, cs[i]? = some x → l[i]? = some y → CR x y
theorem confC_ok {k:CK} {c:DV} {K:DV→Option R} {r:R} (h:confC k c K=some r): ∃ x,(∀ K',confC k c K'=K' x)∧CR c x:=by
 cases k with
 |i64=>simp only[confC,i64C]at h;split at h;(·exact⟨_,fun _=>rfl,CR.refl _⟩);cases h
 |u8=>simp only[confC,u8C]at h;split at h;(·exact⟨_,fun _=>rfl,CR.refl _⟩);cases h
 |str=>simp only[confC,strC]at h;split at h;(·exact⟨_,fun _=>rfl,CR.refl _⟩);cases h
 |bool=>simp only[confC,boolC]at h;split at h;(·exact⟨_,fun _=>rfl,CR.refl _⟩);cases h
 |any=>exact⟨c,fun _=>rfl,CR.refl _⟩
 |sl n=>
  simp only[confC,slC]at h;split at h
  ·rename_i m r';cases hb:Nat.beq m n with
   |true=>
    have:=Nat.eq_of_beq_eq_true hb;subst this;exact⟨.sl false m r',fun K'=>by simp[confC,slC,hb],CR.refl _⟩
   |false=>rw[hb]at h;cases h
  ·refine⟨.sl false n [],fun K'=>rfl,fun D w v hd=>?_⟩;have:=hd.v_inv;subst this;exact .sl (rows:= []) (fun _=>undef) (by simp) (fun r hr=>by cases hr) (fun h=>by simp at h) (fun b o q e hq=>by simp at hq) fun i j r x hx=>by simp at hx
  cases h
theorem pickC_ok {n:Nat}: ∀ {k j:Nat} {K:Nat→Option R} {r:R},pickC n j k K=some r→ ∀ K',pickC n j k K'=K' n
 |0,j,K,r,h=>by simp[pickC]at h
 |k+1,j,K,r,h=>fun K'=>by
  simp only[pickC]at h ⊢;cases hb:Nat.beq n j with
  |true=>have:=Nat.eq_of_beq_eq_true hb;subst this;rfl
  |false=>rw[hb]at h;exact pickC_ok h K'
theorem conf_ok: ∀ (ks:List CK) (cs:List DV) {K:List DV→Option R} {r:R},conf ks cs K=some r→ ∃ l,(∀ K',conf ks cs K'=K' l)∧ConfR cs l
 | [],cs,K,r,h=>⟨[],fun _=>rfl,Nat.zero_le _,fun i x y _ h=>by simp at h⟩
 |k::ks,cs,K,r,h=>by
  simp only[conf]at h ⊢;cases cs with
  |nil=>simp[hdC]at h
  |cons c rest=>
   simp only[hdC]at h ⊢;obtain⟨x,hx,hcr⟩:=confC_ok h;rw[hx]at h;obtain⟨l,hl,h1,h2⟩:=conf_ok ks rest h;refine⟨x::l,fun K'=>by rw[hx,hl],by simpa using h1,fun i a b ha hb=>?_⟩;cases i with
   |zero=>simp at ha hb;subst ha hb;exact hcr
   |succ i=>exact h2 i a b (by simpa using ha) (by simpa using hb)
/-- The same change, with values of which more is known. -/
def DLe (q0 q : Delta) : Prop := q.ob = q0.ob ∧ q.rd = q0.rd ∧ q.sl.length = q0.sl.length ∧ ∀ (i : Nat) p p', q0.sl[i]? = some p → q.sl[i]? = some p' → p'.1 = p.1 ∧ Le p.2 p'.2
theorem DLe.refl (q:Delta):DLe q q:=⟨rfl,rfl,rfl,fun i p p' h h'=>by rw[h]at h';cases h';exact⟨rfl,Le.refl _⟩⟩
theorem Le.trans {x y z:AV} (h:Le x y) (k:Le y z):Le x z:=⟨fun who μ w p v a=>k.1 _ _ _ _ _ (h.1 _ _ _ _ _ a),fun a b=>(k.2 a b).trans (h.2 a b)⟩
theorem czL_le (P:Program) (t:TypeId) (dst:Option Tmp) (q:Delta):DLe q ⟨czL P t dst q.sl,q.ob,q.rd⟩:=by
 refine⟨rfl,rfl,?_,fun i p p' h h'=>?_⟩
 ·unfold czL;split<;>simp
 unfold czL at h';split at h'
 ·rename_i d;simp only[List.getElem?_map,h,Option.map_some,Option.some.injEq]at h';subst h';refine⟨rfl,?_⟩;cases Nat.beq p.1 d
  ·exact Le.refl _
  exact czA_le P t p.2
 rw[h]at h';cases h';exact⟨rfl,Le.refl _⟩
theorem ret1_le {dst:Option Tmp} {x y:AV} {q:Delta} (h:ret1 dst y=some q) (hle:Le x y): ∃ q0,ret1 dst x=some q0∧DLe q0 q:=by
 unfold ret1 at h ⊢;split at h
 ·simp at h;subst h;refine⟨_,rfl,rfl,rfl,rfl,fun i p p' a b=>?_⟩;cases i with
  |zero=>simp at a b;subst a b;exact⟨rfl,hle⟩
  |succ i=>simp at a
 simp at h;subst h;exact⟨_,rfl,DLe.refl _⟩
theorem DLe.trans {q0 q1 q2:Delta} (h:DLe q0 q1) (k:DLe q1 q2):DLe q0 q2:=by
 refine⟨k.1.trans h.1,k.2.1.trans h.2.1,k.2.2.1.trans h.2.2.1,fun i p p' a b=>?_⟩;have hi:i<q1.sl.length:=(by rw[h.2.2.1];exact(List.getElem?_eq_some_iff.1 a).1);have hm:q1.sl[i]? =some q1.sl[i]:=List.getElem?_eq_getElem hi;obtain⟨a1,a2⟩:=h.2.2.2 i p _ a hm;obtain⟨b1,b2⟩:=k.2.2.2 i _ p' hm b;exact⟨b1.trans a1,a2.trans b2⟩
theorem d_le {x y:DV} (h:CR x y) (ho: ∀ p w v,OwnA p w y v):Le (.d x) (.d y):=⟨fun who μ w p v a=>⟨h _ _ _ a.1,ho _ _ _⟩,fun k off=>by simp⟩
/-- The value that known cells make is the value of the cells. -/
theorem mk_le {P:Program} {t:TypeId} {cs l:List DV} {z:DV} (hc:ConfR cs l) (h:mkT P t l=some z): ∃ z0,partA P t cs=some z0∧Le (.d z0) (.d z):=by
 unfold mkT at h;split at h
 ·rename_i n ha hn;obtain⟨hl,h⟩:=bif_some h;have hl:=Nat.eq_of_beq_eq_true hl;simp at h;subst h;refine⟨.ag ((cs.take n).map DV.dis1),?_,d_le (fun D w v hd=>?_) (fun p w v=>by simp[OwnA,OwnS])⟩
  ·unfold partA;rw[ha,hn];simp only;have:Nat.ble n cs.length=true:=Nat.ble_eq_true_of_le (by rw[← hl];exact hc.1);rw[this];rfl
  have hcs:n≤cs.length:=(by rw[← hl];exact hc.1);cases hd with
  |ag h1 h2 h3=>
   (refine .ag (by rw[h1];simp;omega) h2 fun i x y hx hy=>?_);rw[List.getElem?_map]at hx;cases hli:l[i]? with
   |none=>rw[hli]at hx;simp at hx
   |some b=>
    rw[hli]at hx;simp at hx;subst hx;have hi:i<n:=(by rw[← hl];exact(List.getElem?_eq_some_iff.1 hli).1);have hci:cs[i]? =some (cs[i]'(by omega)):=List.getElem?_eq_getElem _;refine(hc.2 i _ b hci hli).dis1 D w y (h3 i _ y ?_ hy);rw[List.getElem?_map,List.getElem?_take,if_pos hi,hci];rfl
 ·rename_i ha hn;split at h
  ·cases h
  ·rename_i x hnt;simp at h;subst h;have h0:0<cs.length:=(by have:=hc.1;simp at this;omega);cases cs with
   |nil=>simp at h0
   |cons c rest=>
    refine⟨c.dis1,by unfold partA;rw[ha,hn];rfl,d_le ((hc.2 0 c x rfl rfl).dis1) (fun p w v=>?_)⟩;cases x<;>simp[DV.dis1,OwnA,OwnS]
    exact absurd rfl (hnt _)
  cases h
 cases h
section
variable {G:Cfg} {c:FC} {n0:Nat} {ops:List Oper} {o:Oper} {fr:Fr} {ob:Ob} {r:R}
theorem ConfR.drop {cs l:List DV} (h:ConfR (cs.map DV.dis1) l):ConfR cs l:=
 ⟨by simpa using h.1,fun i x y hx hy=>fun D w v hd=>h.2 i x.dis1 y (by rw[List.getElem?_map,hx];rfl) hy D w v hd.dis1⟩
/-- What comes of an operation, whatever is done then. -/
def Got (G : Cfg) (c : FC) (n0 : Nat) (ops : List Oper) (o : Oper) (fr : Fr) (ob : Ob) : Prop :=
  ∃ q0 q, runA G c n0 ops o fr ob = some q0 ∧ DLe q0 q ∧ ∀ K', runB G c n0 ops o fr ob K' = K' q
theorem opt_step {q:Option Delta} {K:Delta→Option R} (h:(match q with|some q=>K q|none=>none)=some r): ∃ q',q=some q':=by
 cases q with
 |none=>cases h
 |some q=>exact⟨q,rfl⟩
theorem runB_ok {K : Delta → Option R} (h : runB G c n0 ops o fr ob K = some r) : Got G c n0 ops o fr ob := by
  unfold runB at h
  split at h
  · -- load
    rename_i t a he
    split at h
    · rename_i cs hx
      obtain ⟨l, hl, hc⟩ := conf_ok _ _ h
      rw [hl] at h
      obtain ⟨q, hq⟩ := opt_step h
      have hq' := hq
      rw [Option.bind_eq_some_iff] at hq
      obtain ⟨z, hz, hq⟩ := hq
      obtain ⟨z0, hz0, hle⟩ := mk_le hc hz
      obtain ⟨q0, hq0, hd⟩ := ret1_le hq hle
      refine ⟨q0, ⟨czL G.P o.type o.dst q.sl, q.ob, q.rd⟩, ?_, hd.trans (czL_le _ _ _ _), fun K' => ?_⟩
      · unfold runA; rw [he]; show loadA G c.ro ops o.dst t (evA fr a) ob = _
        rw [hx]; unfold loadA; simp only; rw [hz0]; exact hq0
      unfold runB; rw [he]; simp only [hx]; rw [hl]; simp only [hq']
    · rename_i k off hx
      split at h
      · rename_i cs hcs
        cases hw : wantsO G c.ro o.dst ops with
        | true =>
          rw [hw] at h; simp only [cond_true] at h
          obtain ⟨q, hq⟩ := opt_step h
          refine ⟨q, ⟨czL G.P o.type o.dst q.sl, q.ob, q.rd⟩, ?_, czL_le _ _ _ _, fun K' => ?_⟩
          · unfold runA; rw [he]; show loadA G c.ro ops o.dst t (evA fr a) ob = _; rw [hx]; exact hq
          unfold runB; rw [he]; simp only [hx, hcs, hw, cond_true, hq]
        | false =>
          rw [hw] at h; simp only [cond_false] at h
          obtain ⟨l, hl, hc⟩ := conf_ok _ _ h
          rw [hl] at h
          obtain ⟨q, hq⟩ := opt_step h
          have hq' := hq
          rw [Option.bind_eq_some_iff] at hq
          obtain ⟨z, hz, hq⟩ := hq
          obtain ⟨z0, hz0, hle⟩ := mk_le hc.drop hz
          obtain ⟨q0, hq0, hd⟩ := ret1_le hq hle
          have e1 := (retD_rd hq).2.1
          have e2 := (retD_rd hq0).2.1
          refine ⟨{ q0 with rd := [k] }, ⟨czL G.P o.type o.dst q.sl, q.ob, [k]⟩, ?_, ?_, fun K' => ?_⟩
          · unfold runA; rw [he]; show loadA G c.ro ops o.dst t (evA fr a) ob = _
            rw [hx]; unfold loadA; simp only [hcs, hw, cond_false]; rw [hz0]
            show (retD o.dst z0).map _ = _
            rw [show retD o.dst z0 = some q0 from hq0]; rfl
          · exact DLe.trans (q1 := { q with rd := [k] }) ⟨hd.1, rfl, hd.2.2⟩ (czL_le G.P o.type o.dst { q with rd := [k] })
          unfold runB; rw [he]; simp only [hx, hcs, hw, cond_false]; rw [hl]; simp only [hq']
      cases h
    cases h
  · -- indexAddr
    rename_i t x i he
    split at h
    case h_2 => cases h
    rename_i ki n hi
    split at h
    · rename_i e hu
      split at h
      case h_2 => cases h
      rename_i y sz hx hs
      split at h
      case h_2 => cases h
      rename_i o' m rows hsl
      obtain ⟨hm, h⟩ := bif_some h
      obtain ⟨hb, h⟩ := bif_some h
      unfold rowC at h
      split at h
      case h_2 => cases h
      rename_i row hrow
      simp only at h
      obtain ⟨l, hl, hc⟩ := conf_ok _ _ h
      rw [hl] at h
      obtain ⟨q, hq⟩ := opt_step h
      have hle : Le (.el row) (.el l) := ⟨fun who μ w p v ha => by
        obtain ⟨b, off, h1, c', h2⟩ := ha
        refine ⟨b, off, h1, c', fun j x hx => ?_⟩
        have hj : j < row.length := Nat.lt_of_lt_of_le (List.getElem?_eq_some_iff.1 hx).1 hc.1
        obtain ⟨g1, g2, g3, g4⟩ := h2 j _ (List.getElem?_eq_getElem hj)
        exact ⟨g1, g2, g3, hc.2 j _ x (List.getElem?_eq_getElem hj) hx _ _ _ g4⟩, fun k off => by simp⟩
      obtain ⟨q0, hq0, hd⟩ := ret1_le hq hle
      refine ⟨q0, q, ?_, hd, fun K' => ?_⟩
      · unfold runA; rw [he]
        show (match evA fr i with | .d (.v (.int _ n)) => (indexAddrA G.P t (evA fr x) n).bind (ret1 o.dst) | _ => none) = _
        rw [hi]; simp only
        have : indexAddrA G.P t (evA fr x) n = some (.el row) := by
          unfold indexAddrA; simp only [hu, hx, hs, hsl]
          have hb' := hb; rw [Bool.and_eq_true] at hb'
          rw [hb'.1, hb'.2, hm]; simp [hrow]
        rw [this]; exact hq0
      unfold runB; rw [he]; simp only [hi, hu, hx, hs, hsl, hm, hb, cond_true, rowC, hrow]; rw [hl]; simp only [hq]
    · rename_i len e hu
      split at h
      case h_2 => cases h
      rename_i k off sz hx hs
      obtain ⟨hb, h⟩ := bif_some h
      have hp := pickC_ok h
      rw [hp] at h
      obtain ⟨q, hq⟩ := opt_step h
      refine ⟨q, q, ?_, DLe.refl _, fun K' => ?_⟩
      · unfold runA; rw [he]
        show (match evA fr i with | .d (.v (.int _ n)) => (indexAddrA G.P t (evA fr x) n).bind (ret1 o.dst) | _ => none) = _
        rw [hi]; simp only
        have : indexAddrA G.P t (evA fr x) n = some (.pt k (off + n.toNat * sz)) := by
          unfold indexAddrA; simp only [hu, hx, hs, hb, cond_true]
        rw [this]; exact hq
      unfold runB; rw [he]; simp only [hi, hu, hx, hs, hb, cond_true]; rw [hp]; simp only [hq]
    cases h
  · -- index
    rename_i t x i he
    split at h
    case h_2 => cases h
    rename_i y ki n hx hi
    split at h
    · rename_i len e cs hu
      split at h
      case h_2 => cases h
      rename_i sz hs
      obtain ⟨hb, h⟩ := bif_some h
      have hp := pickC_ok h
      rw [hp] at h
      obtain ⟨l, hl, hc⟩ := conf_ok _ _ h
      rw [hl] at h
      obtain ⟨q, hq⟩ := opt_step h
      have hq' := hq
      rw [Option.bind_eq_some_iff] at hq
      obtain ⟨z, hz, hq⟩ := hq
      obtain ⟨z0, hz0, hle⟩ := mk_le hc hz
      obtain ⟨q0, hq0, hd⟩ := ret1_le hq hle
      refine ⟨q0, ⟨czL G.P o.type o.dst q.sl, q.ob, q.rd⟩, ?_, hd.trans (czL_le _ _ _ _), fun K' => ?_⟩
      · unfold runA; rw [he]
        show (match evA fr x, evA fr i with | .d a, .d (.v (.int _ n)) => (indexA G.P t a n).bind (retD o.dst) | _, _ => none) = _
        rw [hx, hi]; simp only
        have : indexA G.P t (.ag cs) n = some z0 := by unfold indexA; simp only [hu, hs, hb, cond_true, hz0]
        rw [this]; exact hq0
      unfold runB; rw [he]; simp only [hx, hi, hu, hs, hb, cond_true]; rw [hp, hl]; simp only [hq']
    · rename_i s hu
      obtain ⟨hb, h⟩ := bif_some h
      obtain ⟨q, hq⟩ := opt_step h
      refine ⟨q, q, ?_, DLe.refl _, fun K' => ?_⟩
      · unfold runA; rw [he]
        show (match evA fr x, evA fr i with | .d a, .d (.v (.int _ n)) => (indexA G.P t a n).bind (retD o.dst) | _, _ => none) = _
        rw [hx, hi]; simp only
        have : indexA G.P t (.v (.string s)) n = some (.v (.int .u8 (s.data.toList.getD n.toNat 0).toNat)) := by unfold indexA; simp only [hu, hb, cond_true]
        rw [this]; exact hq
      unfold runB; rw [he]; simp only [hx, hi, hu, hb, cond_true, hq]
    cases h
  · -- a sum
    rename_i t x y yt he
    split at h
    · rename_i da db hx hy
      split at h
      case h_2 => cases h
      rename_i ok z hz
      obtain ⟨hok, h⟩ := bif_some h
      obtain ⟨q, hq⟩ := opt_step h
      refine ⟨q, q, ?_, DLe.refl _, fun K' => ?_⟩
      · unfold runA; rw [he]
        show (match evA fr x, evA fr y with | .d a, .d b => (binA G .add t a b).bind (retD o.dst) | _, _ => none) = _
        rw [hx, hy]; simp only
        have : binA G .add t da db = some z := by
          unfold addB at hz; split at hz
          · simp at hz; obtain ⟨e1, rfl⟩ := hz; rw [← e1] at hok; simp only [binA, hok, cond_true]
          rw [Option.map_eq_some_iff] at hz; obtain ⟨z', hz', e⟩ := hz; simp at e; rw [hz', e.2]
        rw [this]; exact hq
      unfold runB; rw [he]; simp only [hx, hy, hz, hok, cond_true, hq]
    cases h
  · -- slice
    rename_i t x lo hi he
    split at h
    case h_2 => cases h
    rename_i y l hh hx hlo hhi
    have fin : ∀ q z, sliceA G.P t y l hh = some z → retD o.dst z = some q → runA G c n0 ops o fr ob = some q := fun q z h1 h2 => by
      unfold runA; rw [he]
      show (match evA fr x, optD fr lo, optD fr hi with | .d a, some l, some h => (sliceA G.P t a l h).bind (retD o.dst) | _, _, _ => none) = _
      rw [hx, hlo, hhi]; simp only; rw [h1]; exact h2
    split at h
    · rename_i hu
      split at h
      case h_2 => cases h
      rename_i s
      split at h
      case h_2 => cases h
      rename_i hv lv h1 h2
      obtain ⟨hb, h⟩ := bif_some h
      obtain ⟨q, hq⟩ := opt_step h
      refine ⟨q, q, fin q _ ?_ hq, DLe.refl _, fun K' => ?_⟩
      · unfold sliceA; simp only [hu, h1, h2, hb, cond_true]
      unfold runB; rw [he]; simp only [hx, hlo, hhi, hu, h1, h2, hb, cond_true, hq]
    · rename_i e hu
      split at h
      case h_2 => cases h
      rename_i o' n rows m hsl hs
      obtain ⟨hm, h⟩ := bif_some h
      split at h
      case h_2 => cases h
      rename_i hv lv h1 h2
      obtain ⟨hb, h⟩ := bif_some h
      obtain ⟨q, hq⟩ := opt_step h
      refine ⟨q, q, fin q _ ?_ hq, DLe.refl _, fun K' => ?_⟩
      · unfold sliceA; simp only [hu, hsl, hs, hm, Bool.true_or, h1, h2, hb, cond_true]
      unfold runB; rw [he]; simp only [hx, hlo, hhi, hu, hsl, hs, hm, h1, h2, hb, cond_true, hq]
    cases h
  · -- convert
    rename_i s d x he
    cases hb : bytesSrc G.P s d (evA fr x) with
    | some rows =>
      rw [hb] at h; simp only at h
      split at h
      case h_2 => cases h
      rename_i l hl
      obtain ⟨q, hq⟩ := opt_step h
      refine ⟨q, q, ?_, DLe.refl _, fun K' => ?_⟩
      · unfold bytesSrc at hb
        split at hb
        case h_2 => cases hb
        rename_i e y hs hd hx
        split at hb
        case h_2 => cases hb
        rename_i o' n r' he' hsl
        simp at hb; subst hb
        unfold runA; rw [he]; simp only [hs, hd, hx, he', hsl, hl]; exact hq
      unfold runB; rw [he]; simp only [hb, hl, hq]
    | none =>
      rw [hb] at h; simp only at h
      obtain ⟨q, hq⟩ := opt_step h
      exact ⟨q, q, hq, DLe.refl _, fun K' => by unfold runB; rw [he]; simp only [hb, hq]⟩
  · -- append
    rename_i as ts he
    split at h
    case h_2 => cases h
    rename_i s y t t' has hts
    split at h
    case h_2 => cases h
    rename_i a b e' d e hs hy ht' hd ht
    split at h
    case h_2 => cases h
    rename_i n by_ m rx o' m' ry z hsz hby hax hay hz
    cases hc : (Nat.beq s d || !(Nat.beq z.cells.length (n + 1) && Nat.beq m (n + 1) && Nat.beq m' (n + 1))) with
    | true => rw [hc] at h; cases h
    | false =>
      rw [hc] at h; simp only [cond_false] at h
      obtain ⟨hb, h⟩ := bif_some h
      refine ⟨⟨[(s, .d a.dis), (d, .d (.sl true (n + 1) (rx ++ ry.map (·.map DV.dis1))))], [], []⟩, _, ?_, DLe.refl _, fun K' => ?_⟩
      · unfold runA; rw [he]
        simp only [has, hts, hs, hy, ht', hd]
        simp only [Bool.or_eq_false_iff, Bool.not_eq_false', Bool.and_eq_true] at hc
        have hb' := hb; rw [Bool.and_eq_true] at hb'
        have : appA G.P t a b = some (.sl true (n + 1) (rx ++ ry.map (·.map DV.dis1))) := by
          unfold appA
          simp only [ht, hsz, hby, hax, hay, hz, hc.2.1.1, hc.2.1.2, hc.2.2, hb'.1, hb'.2, Bool.true_or, Bool.and_self, cond_true]
        rw [hc.1, this]; rfl
      unfold runB; rw [he]; simp only [has, hts, hs, hy, ht', hd, ht, hsz, hby, hax, hay, hz, hc, cond_false, hb, cond_true]
  -- the others
  rename_i h1 h2 h3 h4 h5 h6 h7
  obtain ⟨q, hq⟩ := opt_step h
  refine ⟨q, ⟨czL G.P o.type o.dst q.sl, q.ob, q.rd⟩, hq, czL_le _ _ _ _, fun K' => ?_⟩
  unfold runB
  split
  · rename_i he; exact absurd he (h1 _ _)
  · rename_i he; exact absurd he (h2 _ _ _)
  · rename_i he; exact absurd he (h3 _ _ _)
  · rename_i he; exact absurd he (h4 _ _ _ _)
  · rename_i he; exact absurd he (h5 _ _ _ _)
  · rename_i he; exact absurd he (h6 _ _ _)
  · rename_i he; exact absurd he (h7 _ _)
  rw [hq]
end
end Go.Proofs.YtcfoebkbahpnaaaGreat.Ab
