/- Each operation. -/
import Derived.Test.YtcfoebkbahpnaaaGreatZAj
set_option linter.unusedVariables false
set_option linter.unusedSimpArgs false
namespace Go.Proofs.YtcfoebkbahpnaaaGreat.Ab
open Go

theorem addr_add (b o n:Nat):(⟨b,o,none⟩:Addr).add n=⟨b,o+n,none⟩:=by unfold Addr.add;split<;>simp_all
section
variable {G:Cfg} {who:Who} {μ:Nat→Option Nat} {w:World} {N n0:Nat} {fr:Fr} {a:Act} {ob:Ob} {q:Delta} {o:Oper} {K:Act→World→Prop} {Q:Exit→Act→World→Prop}
theorem dvs_ok (hI:Inv who μ w N fr a.tmps ob): ∀ (ps:List (Nat × Operand)) (l:List (Nat × DV)),dvs fr ps=some l→PV (Ro who) w l (ps.map fun p=>(p.1,a.eval p.2))
 | [],l,h=>by simp[dvs]at h;subst h;exact⟨rfl,fun i p q hp=>by simp at hp⟩
 |(i,x)::r,l,h=>by
  simp only[dvs]at h;split at h
  ·cases h
  ·rename_i y l' hnt hy hl;simp at h;subst h;obtain⟨h1,h2⟩:=dvs_ok hI r l' hl;refine⟨by simpa using h1,fun j p q hp hq=>?_⟩;cases j with
   |zero=>simp at hp hq;subst hp hq;exact⟨rfl,evA_dat hI hy,fun cs e=>hnt cs e⟩
   |succ j=>exact h2 j p q (by simpa using hp) (by simpa using hq)
  cases h
theorem bytes_ok {D:Nat→Nat→Prop}: ∀ (r:List (List DV)) (l:List UInt8) (vs:List Value),bytesOf r=some l→CV D w r.flatten vs→ ∃ ns:List Int,vs=ns.map (Value.int .u8)∧ns.map (fun n=>UInt8.ofNat n.toNat)=l
 | [],l,vs,h,hv=>by simp[bytesOf]at h;subst h;exact⟨[],List.length_eq_zero_iff.1 hv.1,rfl⟩
 |row::r,l,vs,h,hv=>by
  unfold bytesOf at h;split at h
  ·rename_i e;simp at e
  ·rename_i b r' e;simp at e;obtain⟨rfl,rfl⟩:=e;rw[Option.map_eq_some_iff]at h;obtain⟨l',hl,rfl⟩:=h;obtain⟨v,us,rfl,h1,_,h3⟩:=(show CV D w (.v (.int .u8 b)::r.flatten) vs from hv).uncons;cases h1.v_inv
   obtain⟨ns,rfl,rfl⟩:=bytes_ok r l' us hl h3;exact⟨b::ns,rfl,rfl⟩
  cases h
theorem push_bytes: ∀ (ns:List Int) (s:ByteArray),ns.foldl (fun r n=>r.push (UInt8.ofNat n.toNat)) s=⟨(s.data.toList++ns.map (fun n=>UInt8.ofNat n.toNat)).toArray⟩
 | [],s=>by simp
 |n::ns,s=>by rw[List.foldl_cons,push_bytes ns];simp[ByteArray.push]
theorem optD_ok (hI:Inv who μ w N fr a.tmps ob) {x:Option Operand} {y:Option DV} (h:optD fr x=some y):(∀ z,y=some z→ ∃ v,x.map a.eval=some v∧Dat (Ro who) w z v)∧(y=none→x.map a.eval=none):=by
 cases x with
 |none=>simp[optD]at h;subst h;exact⟨fun z e=>(by cases e),fun _=>rfl⟩
 |some x=>
  simp only[optD]at h;split at h
  ·rename_i y' hy;simp at h;subst h;exact⟨fun z e=>by cases e;exact⟨_,rfl,evA_dat hI hy⟩,fun e=>by cases e⟩
  cases h
theorem run_ok (hE : EqOK G) {c : FC} {ops : List Oper} (hI : Inv who μ w N fr a.tmps ob) (hN : ∀ d, o.dst = some d → d < N) (h : runA G c n0 ops o fr ob = some q) (hk : StepK who μ w N n0 fr ob q a.defers K) : o.wp G.P a w K Q := by
  unfold runA at h
  split at h
  · rename_i x he
    exact copy_ok hI hN h (by rw [execOp, he]; rfl) hk
  · rename_i x he
    exact copy_ok hI hN h (by rw [execOp, he]; rfl) hk
  · -- pick
    rename_i cnd x y he
    split at h
    case h_2 => cases h
    rename_i b hb
    have hv := (evA_dat hI hb).v_inv
    refine ret1_ok hI hN h (v := if b then a.eval x else a.eval y) (fun p => ?_) (fun k off e => ?_) (by rw [execOp, he]; simp [asBool, hv]) hk
    · unfold pickA
      split
      · rename_i p' q' hp hq
        have h1 := (evA_dat hI hp).v_inv; have h2 := (evA_dat hI hq).v_inv
        rw [h1, h2]
        cases b
        · exact ⟨.v rfl, OwnA.v⟩
        exact ⟨.v rfl, OwnA.v⟩
      cases b
      · exact evA_dis hI y p
      exact evA_dis hI x p
    unfold pickA at e
    split at e
    · cases e
    have hz : ∀ z : Operand, (evA fr z).dis = .pt k off → ∃ cs, ob[k]? = some (some cs) := fun z hz => by
      refine (evA_pt hI (x := z) (k := k) (off := off) ?_).2
      cases hf : evA fr z <;> rw [hf] at hz <;> simp [AV.dis] at hz ⊢; exact hz
    cases b
    · exact hz y e
    exact hz x e
  · -- alloc
    rename_i t he
    rw [Option.bind_eq_some_iff] at h
    obtain ⟨z, hz, h⟩ := h
    obtain ⟨v, hv, hd, ht, _⟩ := zeroT_ok (D := Ro who) (w := w) hz
    exact new_ok hI hN h hd ht (ty := t) (by rw [execOp, he]; simp [Instr.alloc, hv, newVar, newRow]) hk
  · -- box
    rename_i t x he
    split at h
    · cases h
    · rename_i y hnt hy
      exact new_ok hI hN h (evA_dat hI hy) (fun l e => hnt l e) (ty := t) (by rw [execOp, he]; simp [Instr.box, newVar, newRow]) hk
    cases h
  · -- build
    rename_i t ps he
    rw [Option.bind_eq_some_iff] at h
    obtain ⟨l, hl, h⟩ := h
    rw [Option.bind_eq_some_iff] at h
    obtain ⟨z, hz, h⟩ := h
    have hp := dvs_ok hI _ _ hl
    obtain ⟨v, h1, h2, h3, h4⟩ := build_ok (k := ps.map fun (i, x) => (i, a.eval x)) hz (by simpa using hp)
    exact retD_ok hI hN h h2 h4 (by rw [execOp, he]; simp [h1]) hk
  · -- buildSlice
    rename_i t len ps he
    rw [Option.bind_eq_some_iff] at h
    obtain ⟨l, hl, h⟩ := h
    rw [Option.bind_eq_some_iff] at h
    obtain ⟨z, hz, h⟩ := h
    have hp := dvs_ok hI _ _ hl
    exact buildSlice_ok (k := ps.map fun (i, x) => (i, a.eval x)) hI hN hz (by simpa using hp) h (by rw [execOp, he]) hk
  · rename_i t x he
    exact loadPt_ok hI hN h he hk
  · rename_i t pa x he
    split at h
    · rename_i hd; exact store_ok hI hd h he hk
    cases h
  · -- nilCheck
    rename_i x he
    split at h
    · rename_i k off hx
      obtain ⟨⟨b, hb, hv⟩, hl⟩ := evA_pt hI hx
      exact ret1_ok hI hN h (fun p => ⟨b, hb, hv⟩) (fun k' off' e => by cases e; exact hl) (by rw [execOp, he]; simp [hv]) hk
    · rename_i cs hx
      have hd : (evA fr x).dis = .el cs := by rw [hx]; rfl
      have h1 := fun p => hd ▸ evA_dis hI x p
      obtain ⟨b, o', hv, _⟩ := h1 (.slot 0)
      exact ret1_ok hI hN h (v := a.eval x) h1 (fun k' off' e => by cases e) (by rw [execOp, he]; simp [hv]) hk
    cases h
  · -- binOp
    rename_i op t x y yt he
    split at h
    · rename_i p r hp hr
      rw [Option.bind_eq_some_iff] at h
      obtain ⟨z, hz, h⟩ := h
      obtain ⟨v, h1, rfl, h3⟩ := bin_ok hE hz (evA_dat hI hp) (evA_dat hI hr) x y
      exact retD_ok hI hN h (.v h3) (fun _ => OwnA.v) (by rw [execOp, he]; simp only [Sem.run_bind] at h1 ⊢; rw [h1]; rfl) hk
    cases h
  · rename_i t x he
    split at h
    · rename_i b hb
      have hv := (evA_dat hI hb).v_inv
      exact retD_ok hI hN h (.v rfl) (fun _ => OwnA.v) (by rw [execOp, he]; simp [hv, Op.unary]) hk
    cases h
  · rename_i t x he
    split at h
    · rename_i n hb
      have hv := (evA_dat hI hb).v_inv
      exact retD_ok hI hN h (.v rfl) (fun _ => OwnA.v) (by rw [execOp, he]; simp [hv, Op.unary, Op.intArith]) hk
    cases h
  · -- convert
    rename_i s d x he
    split at h
    · rename_i ds k k' n hs hd hx
      have hv := (evA_dat hI hx).v_inv
      refine retD_ok hI hN h (.v rfl) (fun _ => OwnA.v) (v := .int k (k.wrap n)) ?_ hk
      rw [execOp, he]
      simp only [Sem.run_bind, convert, run_underlying hs, run_underlying hd, Result.andThen_ok, hv, Conv.intToInt, Sem.run_pure]
    · rename_i e x' hs hd hx
      split at h
      · rename_i o' n' r he' hr
        rw [Option.bind_eq_some_iff] at h
        obtain ⟨l, hl, h⟩ := h
        obtain ⟨A, cap, hv, hd'⟩ := asSl_ok hr (evA_dat hI hx)
        rw [hv] at hd'
        obtain ⟨vs, hvs, hvl, hvc, hvn, hva⟩ := sl_cells hd'
        obtain ⟨ns, rfl, rfl⟩ := bytes_ok r l vs hl hvs
        refine retD_ok hI hN h (.v rfl) (fun _ => OwnA.v) (v := .string ⟨(ns.map fun n => UInt8.ofNat n.toNat).toArray⟩) ?_ hk
        rw [execOp, he]
        simp only [Sem.run_bind]
        rw [hv, run_convert_bytes_string w s d e A r.length cap hs he' hd]
        cases A with
        | none =>
          have := hvn rfl; subst this
          have hns : ns = [] := by simpa using hvl
          subst hns; rfl
        | some ad =>
          have hrl : ∀ (r : List (List DV)) l, bytesOf r = some l → l.length = r.length ∧ r.flatten.length = r.length := by
            intro r; induction r with
            | nil => intro l h; simp [bytesOf] at h; subst h; exact ⟨rfl, rfl⟩
            | cons row r ih =>
              intro l h
              unfold bytesOf at h
              split at h
              · rename_i e; simp at e
              · rename_i b r' e; simp at e; obtain ⟨rfl, rfl⟩ := e
                rw [Option.map_eq_some_iff] at h; obtain ⟨l', hl', rfl⟩ := h
                obtain ⟨i1, i2⟩ := ih l' hl'
                exact ⟨by simp [i1], by simpa using i2⟩
              cases h
          have hlen : (ns.map (Value.int .u8)).length = r.length := by rw [hvs.1]; exact (hrl r _ hl).2
          have hld : (loadCells ad r.length).run G.P w = .ok (ns.map (Value.int .u8)).toArray w := by
            rw [← hlen]
            refine run_loadCells_list (P := G.P) w ad _ (fun j v hjv => ?_)
            have h0 : 0 < r.length := by rw [← hlen]; exact Nat.lt_of_le_of_lt (Nat.zero_le _) (List.getElem?_eq_some_iff.1 hjv).1
            have := hva ad rfl h0
            rw [this]; exact hvc ad.block ad.off (by rw [← this]) j v hjv
          rw [run_bytesToString w ad r.length cap ns hld, push_bytes]; simp [ByteArray.empty, ByteArray.emptyWithCapacity]; try rfl
      cases h
    cases h
  · -- slice
    rename_i t x lo hi he
    split at h
    · rename_i x' l' h' hx hlo hhi
      rw [Option.bind_eq_some_iff] at h
      obtain ⟨z, hz, h⟩ := h
      obtain ⟨l1, l2⟩ := optD_ok hI hlo
      obtain ⟨h1, h2⟩ := optD_ok hI hhi
      obtain ⟨v, r1, r2, r3, r4⟩ := slice_ok (P := G.P) hz (evA_dat hI hx) l1 l2 h1 h2
      exact retD_ok hI hN h r2 r4 (by rw [execOp, he]; simp [r1]) hk
    cases h
  · -- fieldAddr
    rename_i t x f he
    rw [Option.bind_eq_some_iff] at h
    obtain ⟨z, hz, h⟩ := h
    unfold fieldAddrA at hz
    split at hz
    case h_2 => cases hz
    rename_i fs hu
    split at hz
    case h_2 => cases hz
    rename_i fd hf
    split at hz
    case h_2 => cases hz
    rename_i n hn
    have hex : ∀ b off, a.eval x = .pointer (some ⟨b, off, none⟩) → (execOp a.eval o).run G.P w = .ok (.value (.pointer (some ⟨b, off + fd.offset, none⟩))) w := fun b off hv => by
      rw [execOp, he]; simp [Instr.fieldAt, underlying_run hu, hf, Instr.sureAddr, hv, fieldPlace, sizeOf_run hn, addr_add]
    split at hz
    · rename_i k off hx
      simp at hz; subst hz
      obtain ⟨⟨b, hb, hv⟩, hl⟩ := evA_pt hI hx
      exact ret1_ok hI hN h (fun p => ⟨b, hb, rfl⟩) (fun k' off' e => by cases e; exact hl) (hex b off hv) hk
    · rename_i cs hx
      obtain ⟨hle, hz⟩ := bif_some hz
      simp at hz; subst hz
      have hd : (evA fr x).dis = .el cs := by rw [hx]; rfl
      obtain ⟨b, off, hv, c', hc⟩ := (hd ▸ evA_dis hI x (.slot 0) : AR who μ w (.slot 0) (.el cs) (a.eval x))
      refine ret1_ok hI hN h (fun p => ⟨b, off + fd.offset, rfl, fun q => c' (fd.offset + q), fun q x' hx' => ?_⟩) (fun k' off' e => by cases e) (hex b off hv) hk
      rw [List.getElem?_drop] at hx'
      rw [Nat.add_assoc]; exact hc (fd.offset + q) x' hx'
    cases hz
  · rename_i t x f he
    split at h
    · rename_i x' hx
      rw [Option.bind_eq_some_iff] at h
      obtain ⟨z, hz, h⟩ := h
      obtain ⟨v, h1, h2, h3⟩ := field_ok (P := G.P) hz (evA_dat hI hx)
      exact retD_ok hI hN h h2 (fieldA_own hz h3) (by rw [execOp, he]; simp [h1]) hk
    cases h
  · -- indexAddr
    rename_i t x i he
    split at h
    case h_2 => cases h
    rename_i ki n hi
    rw [Option.bind_eq_some_iff] at h
    obtain ⟨z, hz, h⟩ := h
    have hiv := (evA_dat hI hi).v_inv
    unfold indexAddrA at hz
    split at hz
    · rename_i e hu
      split at hz
      case h_2 => cases hz
      rename_i x' sz hx hs
      split at hz
      case h_2 => cases hz
      rename_i o' m r hsl
      obtain ⟨hb, hz⟩ := bif_some hz
      simp only [Bool.and_eq_true, decide_eq_true_eq] at hb
      rw [Option.map_eq_some_iff] at hz
      obtain ⟨row, hrow, rfl⟩ := hz
      obtain ⟨A, cap, hv, hd⟩ := asSl_ok hsl (evA_dat hI hx)
      rw [hv] at hd
      obtain ⟨b, off, rfl, hrl, hca, hro⟩ := sl_row hd hrow
      have hm : m = sz := Nat.eq_of_beq_eq_true hb.2
      subst hm
      have hc : ∃ c : Nat → Value, ∀ q x, row[q]? = some x → who b (off + n.toNat * m + q) = none ∧ w.cell? ⟨b, off + n.toNat * m + q, none⟩ = some (c q) ∧ (c q).oneCell' = true ∧ Dat (Ro who) w x (c q) := by
        refine ⟨fun q => (w.cell? ⟨b, off + n.toNat * m + q, none⟩).getD undef, fun q x hx => ?_⟩
        obtain ⟨c, h1, h2, h3⟩ := hca q x hx
        refine ⟨hro q (by rw [← hrl]; exact (List.getElem?_eq_some_iff.1 hx).1), ?_, ?_, ?_⟩ <;> simp only [h1, Option.getD_some] <;> assumption
      refine ret1_ok hI hN h (fun p => ⟨b, off + n.toNat * m, rfl, hc⟩) (fun k' off' e => by cases e) ?_ hk
      rw [execOp, he]
      simp [Instr.indexAt, hiv, hv, asIntOf, underlying_run hu, sizeOf_run hs, hb.1.1, hb.1.2, addr_add]
    · rename_i len e hu
      split at hz
      case h_2 => cases hz
      rename_i k off sz hx hs
      obtain ⟨hb, hz⟩ := bif_some hz
      simp only [Bool.and_eq_true, decide_eq_true_eq] at hb
      simp at hz; subst hz
      obtain ⟨⟨b, hb', hv⟩, hl⟩ := evA_pt hI hx
      refine ret1_ok hI hN h (fun p => ⟨b, hb', rfl⟩) (fun k' off' e => by cases e; exact hl) ?_ hk
      rw [execOp, he]
      simp [Instr.indexAt, hiv, hv, asIntOf, underlying_run hu, sizeOf_run hs, Instr.sureAddr, hb.1, hb.2, addr_add]
    cases hz
  · rename_i t x i he
    split at h
    · rename_i x' ki n hx hi
      rw [Option.bind_eq_some_iff] at h
      obtain ⟨z, hz, h⟩ := h
      have hiv := (evA_dat hI hi).v_inv
      obtain ⟨v, h1, h2, h3⟩ := index_ok (P := G.P) (k := ki) hz (evA_dat hI hx)
      exact retD_ok hI hN h h2 (indexA_own hz h3) (by rw [execOp, he]; simp [hiv, h1]) hk
    cases h
  · rename_i x ix he
    exact extract_ok hI hN h he hk
  · -- len
    rename_i as ts he
    split at h
    · rename_i x t has hts
      split at h
      · rename_i x' hx
        rw [Option.bind_eq_some_iff] at h
        obtain ⟨z, hz, h⟩ := h
        obtain ⟨v, h1, rfl, h3⟩ := len_ok (P := G.P) (ty := o.type) hz (evA_dat hI hx)
        refine retD_ok hI hN h (.v h3) (fun _ => OwnA.v) ?_ hk
        have e1 : as = #[x] := by rw [← Array.toArray_toList (xs := as), has]
        have e2 : ts = #[t] := by rw [← Array.toArray_toList (xs := ts), hts]
        subst e1 e2
        rw [execOp, he]; simp [resolve, invoke, builtin, h1]
      cases h
    cases h
  · -- append
    rename_i as ts he
    split at h
    · rename_i s y t t' has hts
      split at h
      · rename_i x z e' hs hy ht'
        split at h
        · rename_i d hd
          cases hsd : Nat.beq s d with
          | true => rw [hsd] at h; cases h
          | false =>
            rw [hsd] at h; simp only [cond_false, Option.map_eq_some_iff] at h
            obtain ⟨r, hr, rfl⟩ := h
            have e1 : as = #[.tmp s, y] := by rw [← Array.toArray_toList (xs := as), has]
            have e2 : ts = #[t, t'] := by rw [← Array.toArray_toList (xs := ts), hts]
            subst e1 e2
            exact append_ok hI hd (hN d hd) (fun e => by subst e; simp at hsd) hs hy ht' hr he hk
        cases h
      cases h
    cases h
  cases h
end
end Go.Proofs.YtcfoebkbahpnaaaGreat.Ab
