/- What query.Code comes to on a right code's words. -/
import Derived.Test.YtcfoebkbahpnaaaGreatZLx
set_option linter.unusedSectionVars false
set_option linter.unusedVariables false
set_option linter.unusedSimpArgs false
namespace Go.Proofs.YtcfoebkbahpnaaaGreat.Ab
open Go Go.Proofs.YtcfoebkbahpnaaaGreat

theorem Wh.mono {n:Nat} {l:RW} {WS ws:List TokS} {c:List OpS} {D D':Nat} (h:Wh n l WS ws c D) (hD:D≤D'):Wh n l WS ws c D':=fun d i rest a b=>h d i rest a (by omega)
theorem Gr.mono {n:Nat} {l:RW} {WS ws:List TokS} {c:List OpS} {F:List (List PartS)} {D D':Nat} (h:Gr n l WS ws c F D) (hD:D≤D'):Gr n l WS ws c F D':=fun d i rest a b=>h d i rest a (by omega)
theorem In.mono {n:Nat} {l:RW} {WS ws:List TokS} {c:List OpS} {F:List (List PartS)} {D D':Nat} (h:In n l WS ws c F D) (hD:D≤D'):In n l WS ws c F D':=fun d i m rest a b=>h d i m rest a (by omega)
section
variable {n:Nat} (hf:Fuel n) (hn:40000≤n) {l:RW} {WS:List TokS} (hT:Toks l WS) (hW:WS.length≤4096)
include hf hn hT hW
theorem wh_in {ws:List TokS} {c:List OpS} {F:List (List PartS)} {D:Nat} (h:In n l WS ws c F D) (hF:F.length≤1) (hc:c.length≤800) {ops:List OpS} (he:(if c= []then [opK 1]else c)++F.map filterO=ops) (hD:D+1≤2*(ws.length+1)):Wh n l WS (wSig [123]::ws) ops (2*(wSig [123]::ws).length):=by
 rw[← he];exact(wh_of hf hn hT hW (gr_in hf hn hT hW h) hF (by split<;>first|omega|simp)).mono (by simp;omega)
theorem nel {c:List OpS} (h:c≠ []):(if c= []then [opK 1]else c)=c:=if_neg h
theorem not_union_sig (x:List UInt8):¬ isW (wSig x) [85,78,73,79,78]:=not_key (show(5:Int) ≠1 by decide) _
theorem op_sub {o : OpS} (h : opOK o = true) (ho : o.lt n) (args : List (List TokS × List OpS)) (hl : (args.length : Int) = opNeeds o.f0) (ha : ∀ a ∈ args, Sub n l WS a) (hs : (args.flatMap Prod.snd).length ≤ 300) :
    Sub n l WS (opW o (args.map Prod.fst), args.flatMap Prod.snd ++ [o]) := by
  have hF := opF_of h
  have hnd : opNeeds o.f0 = (if o.f0 = 1 ∨ o.f0 = 2 then 0 else if 7 ≤ o.f0 ∧ o.f0 ≤ 9 then 1 else if 3 ≤ o.f0 ∧ o.f0 ≤ 6 then 2 else -1) := rfl
  have hne : args.flatMap Prod.snd ++ [o] ≠ [] := by simp
  have key := op_form h
  unfold opW
  rcases key with ⟨hk, e⟩ | ⟨hk, e⟩ | ⟨hk, e⟩ | ⟨hk, e⟩ | ⟨hk, e⟩ | ⟨hk, e⟩ | ⟨hk, e⟩ | ⟨hk, e⟩ | ⟨hk, e⟩
  · -- basic
    have hz : args = [] := List.eq_nil_of_length_eq_zero (by rw [hnd, if_pos (.inl hk)] at hl; omega)
    subst hz
    rw [if_pos hk]
    obtain ⟨b1, b2⟩ := opOK_basic h hk
    have hin := in_bas hf hn hT hW (ts := o.f1) (fun t ht => ⟨b2 t ht, ho.b t ht⟩) (by omega)
    refine ⟨⟨_, rfl⟩, wh_in hf hn hT hW hin (by simp) (by split <;> simp) ?_ (by omega), by simp⟩
    by_cases h1 : o.f1 = []
    · rw [if_pos h1, if_pos rfl, e, h1]; rfl
    rw [if_neg h1, if_neg (by simp), ← e]; rfl
  · -- table
    have hz : args = [] := List.eq_nil_of_length_eq_zero (by rw [hnd, if_pos (.inr hk)] at hl; omega)
    subst hz
    rw [if_neg (by omega), if_pos hk]
    have hb := hF.b hk
    have hcell : ∀ row ∈ o.f2.f1, row.length ≤ 100 ∧ ∀ t ∈ row, cellV t = true := fun row hr => by
      refine ⟨by rw [hb.l row hr]; have := hb.v; omega, ?_⟩
      have hl := h
      unfold opOK lastOK at hl
      rw [if_neg (by omega), if_pos hk] at hl
      unfold tabV at hl
      simp only [Bool.and_eq_true, List.all_eq_true] at hl
      have := hl.2.2.2.2.2.2 row hr
      unfold rowV at this
      simp only [Bool.and_eq_true, List.all_eq_true] at this
      exact this.2
    have hin := in_one hf hn hT hW (w := wKey [86, 65, 76, 85, 69, 83]) (q := wSig [40] :: (o.f2.f0.map wVar ++ wSig [41] :: wSig [123] :: (o.f2.f1.flatMap rowW ++ [wSig [125]]))) (c := [tabO o.f2.f0 o.f2.f1]) (D := 0) (key_el hf hn hT hW _ (by decide)) fun d i rest _ hd => by
      obtain ⟨E_, h1, h2⟩ := el_values hf hn hT hW d (vars := o.f2.f0) (rows := o.f2.f1) (by have := hb.v; omega) (by have := hb.r; omega) hcell (i := i) (r0 := wSig [125] :: rest) (by rw [hd]; simp)
      refine ⟨E_, h1, fun K => ?_⟩
      rw [h2]; congr 2; simp; omega
    rw [← e] at hin
    have hw := wh_in hf hn hT hW hin (by simp) (by simp) (ops := [o]) (by rw [nel hf hn hT hW (by simp)]; rfl) (by omega)
    refine ⟨⟨_, rfl⟩, ?_, by simp⟩
    have e2 : tabW o.f2.f0 o.f2.f1 = wSig [123] :: (wKey [86, 65, 76, 85, 69, 83] :: (wSig [40] :: (o.f2.f0.map wVar ++ wSig [41] :: wSig [123] :: (o.f2.f1.flatMap rowW ++ [wSig [125]])) ++ [wSig [125]])) := by simp [tabW]
    simp only [e2]; exact hw
  · -- join
    have hl2 : args.length = 2 := by rw [hnd, if_neg (by omega), if_neg (by omega), if_pos (by omega)] at hl; omega
    match args, hl2, ha, hs with
    | [a, b], _, ha, hs =>
      have h1 := ha a (List.mem_cons_self ..); have h2 := ha b (List.mem_cons_of_mem _ (List.mem_cons_self ..))
      simp only [List.flatMap_cons, List.flatMap_nil, List.append_nil, List.length_append] at hs
      obtain ⟨q, hq⟩ := h2.q
      have hin := in_two hf hn hT hW h1 (by omega) (w := wSig [123]) (q := q) (c := joinO a.2 b.2) (D := 2 * (a.1.length + b.1.length)) (by omega) (sig_el hf hn hT hW _ (by decide)) (not_union_sig hf hn hT hW _) fun d i A rest hD hA hd =>
        el_whole hf hn hT hW d hA (q := q) (ops := b.2) (by have := h2.w; rw [hq] at this; exact this) (by rw [hq] at hD; omega) (by omega) hd (not_union_sig hf hn hT hW _)
      have hj : joinO a.2 b.2 = a.2 ++ b.2 ++ [o] := by rw [joinO, if_neg h1.ne, ← e]
      rw [hj] at hin
      have hw := wh_in hf hn hT hW hin (by simp) (by simp; omega) (ops := a.2 ++ b.2 ++ [o]) (by rw [nel hf hn hT hW (by simp)]; simp) (by rw [hq]; simp; omega)
      rw [if_neg (by omega), if_neg (by omega), if_pos hk]
      refine ⟨⟨_, rfl⟩, ?_, by simp⟩
      have e2 : wSig [123] :: (a.1 ++ (b.1 ++ [wSig [125]])) = wSig [123] :: (a.1 ++ wSig [123] :: (q ++ [wSig [125]])) := by rw [hq]; rfl
      simp only [List.map_cons, List.map_nil, List.getD_cons_zero, List.getD_cons_succ, List.flatMap_cons, List.flatMap_nil, List.append_nil, e2]; exact hw
  · -- union
    have hl2 : args.length = 2 := by rw [hnd, if_neg (by omega), if_neg (by omega), if_pos (by omega)] at hl; omega
    match args, hl2, ha, hs with
    | [a, b], _, ha, hs =>
      have h1 := ha a (List.mem_cons_self ..); have h2 := ha b (List.mem_cons_of_mem _ (List.mem_cons_self ..))
      simp only [List.flatMap_cons, List.flatMap_nil, List.append_nil, List.length_append] at hs
      obtain ⟨q, hq⟩ := h1.q
      have hin := in_one hf hn hT hW (w := wSig [123]) (q := q ++ wKey [85, 78, 73, 79, 78] :: b.1) (c := a.2 ++ b.2 ++ [opK 4]) (D := 2 * (a.1.length + b.1.length)) (sig_el hf hn hT hW _ (by decide)) fun d i rest hD hd => by
        obtain ⟨E_, h3, h4⟩ := el_union hf hn hT hW d (q1 := q) (ws2 := b.1) (o1 := a.2) (o2 := b.2) (D := 2 * (a.1.length + b.1.length)) (by have := h1.w; rw [hq] at this; rw [hq]; exact this.mono (by omega)) (h2.w.mono (by omega)) hD (by omega) (i := i) (v := wSig [125]) (r := rest) (by rw [hd]; simp) (not_union_sig hf hn hT hW _)
        refine ⟨E_, h3, fun K => ?_⟩
        rw [h4]; congr 2; simp; omega
      rw [← e] at hin
      have hw := wh_in hf hn hT hW hin (by simp) (by simp; omega) (ops := a.2 ++ b.2 ++ [o]) (by rw [nel hf hn hT hW (by simp)]; simp) (by rw [hq]; simp; omega)
      rw [if_neg (by omega), if_neg (by omega), if_neg (by omega), if_pos hk]
      refine ⟨⟨_, rfl⟩, ?_, by simp⟩
      have e2 : wSig [123] :: (a.1 ++ wKey [85, 78, 73, 79, 78] :: (b.1 ++ [wSig [125]])) = wSig [123] :: (wSig [123] :: (q ++ wKey [85, 78, 73, 79, 78] :: b.1 ++ [wSig [125]])) := by rw [hq]; simp
      simp only [List.map_cons, List.map_nil, List.getD_cons_zero, List.getD_cons_succ, List.flatMap_cons, List.flatMap_nil, List.append_nil, e2]; exact hw
  · -- minus
    have hl2 : args.length = 2 := by rw [hnd, if_neg (by omega), if_neg (by omega), if_pos (by omega)] at hl; omega
    match args, hl2, ha, hs with
    | [a, b], _, ha, hs =>
      have h1 := ha a (List.mem_cons_self ..); have h2 := ha b (List.mem_cons_of_mem _ (List.mem_cons_self ..))
      simp only [List.flatMap_cons, List.flatMap_nil, List.append_nil, List.length_append] at hs
      have hin := in_two hf hn hT hW h1 (by omega) (w := wKey [77, 73, 78, 85, 83]) (q := b.1) (c := a.2 ++ b.2 ++ [opK 6]) (D := 2 * (a.1.length + b.1.length)) (by omega) (key_el hf hn hT hW _ (by decide)) (fun h => by have := (key_is _ _).1 h; revert this; decide) fun d i A rest hD hA hd =>
        el_minus hf hn hT hW d hA h1.ne h2.w (by omega) (by omega) (rest := wSig [125] :: rest) hd
      rw [← e] at hin
      have hw := wh_in hf hn hT hW hin (by simp) (by simp; omega) (ops := a.2 ++ b.2 ++ [o]) (by rw [nel hf hn hT hW (by simp)]; simp) (by simp; omega)
      rw [if_neg (by omega), if_neg (by omega), if_neg (by omega), if_neg (by omega), if_pos hk]
      refine ⟨⟨_, rfl⟩, ?_, by simp⟩
      simp only [List.map_cons, List.map_nil, List.getD_cons_zero, List.getD_cons_succ, List.flatMap_cons, List.flatMap_nil, List.append_nil]; exact hw
  · -- left
    have hl2 : args.length = 2 := by rw [hnd, if_neg (by omega), if_neg (by omega), if_pos (by omega)] at hl; omega
    match args, hl2, ha, hs with
    | [a, b], _, ha, hs =>
      have h1 := ha a (List.mem_cons_self ..); have h2 := ha b (List.mem_cons_of_mem _ (List.mem_cons_self ..))
      simp only [List.flatMap_cons, List.flatMap_nil, List.append_nil, List.length_append] at hs
      rw [if_neg (by omega), if_neg (by omega), if_neg (by omega), if_neg (by omega), if_neg (by omega), if_pos hk]
      have inner : ∀ (ws : List TokS) (F : List (List PartS)), In n l WS ws b.2 F (2 * b.1.length) → F.length ≤ 1 → (∀ f ∈ F, f.length ≤ 256) → F.flatMap id = o.f3 → b.1.length ≤ ws.length → Sub n l WS (wSig [123] :: (a.1 ++ wKey [79, 80, 84, 73, 79, 78, 65, 76] :: (wSig [123] :: ws ++ [wSig [125]])), a.2 ++ b.2 ++ [o]) := fun ws F hI hF1 hF2 hF3 hlen => by
        have hg := gr_in hf hn hT hW hI
        rw [nel hf hn hT hW h2.ne] at hg
        have hin := in_two hf hn hT hW h1 (by omega) (w := wKey [79, 80, 84, 73, 79, 78, 65, 76]) (q := wSig [123] :: ws) (c := a.2 ++ b.2 ++ [leftO (F.flatMap id)]) (D := 2 * (a.1.length + b.1.length) + 1) (by omega) (key_el hf hn hT hW _ (by decide)) (fun h => by have := (key_is _ _).1 h; revert this; decide) fun d i A rest hD hA hd =>
          el_opt hf hn hT hW d hA h1.ne hg hF1 hF2 (by omega) (by omega) (rest := wSig [125] :: rest) hd
        rw [hF3, ← e] at hin
        have hw := wh_in hf hn hT hW hin (by simp) (by simp; omega) (ops := a.2 ++ b.2 ++ [o]) (by rw [nel hf hn hT hW (by simp)]; simp) (by simp; omega)
        exact ⟨⟨_, rfl⟩, hw, by simp⟩
      by_cases h3 : o.f3 = []
      · rw [if_pos h3]
        have := inner (b.1 ++ [wSig [125]]) [] (in_bare hf hn hT hW h2 (by omega)) (by simp) (fun f hf => by cases hf) (by rw [h3]; rfl) (by simp)
        have e2 : wSig [123] :: (a.1 ++ wKey [79, 80, 84, 73, 79, 78, 65, 76] :: wSig [123] :: (b.1 ++ [wSig [125], wSig [125]])) = wSig [123] :: (a.1 ++ wKey [79, 80, 84, 73, 79, 78, 65, 76] :: (wSig [123] :: (b.1 ++ [wSig [125]]) ++ [wSig [125]])) := by simp
        simp only [List.map_cons, List.map_nil, List.getD_cons_zero, List.getD_cons_succ, List.flatMap_cons, List.flatMap_nil, List.append_nil, e2]; exact this
      rw [if_neg h3]
      have hc := (hF.e hk).resolve_left h3
      have := inner (b.1 ++ wKey [70, 73, 76, 84, 69, 82] :: wSig [40] :: (fW o.f3 ++ [wSig [41], wSig [125]])) [o.f3] (in_filter hf hn hT hW h2 (by omega) hc.2 ho.h) (by simp) (fun f hf => by rw [List.mem_singleton.1 hf]; exact (fcheck_ok hc.2).1) (by simp) (by simp)
      have e2 : wSig [123] :: (a.1 ++ wKey [79, 80, 84, 73, 79, 78, 65, 76] :: wSig [123] :: (b.1 ++ wKey [70, 73, 76, 84, 69, 82] :: wSig [40] :: (fW o.f3 ++ [wSig [41], wSig [125], wSig [125]]))) = wSig [123] :: (a.1 ++ wKey [79, 80, 84, 73, 79, 78, 65, 76] :: (wSig [123] :: (b.1 ++ wKey [70, 73, 76, 84, 69, 82] :: wSig [40] :: (fW o.f3 ++ [wSig [41], wSig [125]])) ++ [wSig [125]])) := by simp
      simp only [List.map_cons, List.map_nil, List.getD_cons_zero, List.getD_cons_succ, List.flatMap_cons, List.flatMap_nil, List.append_nil, e2]; exact this
  · -- filter
    have hl1 : args.length = 1 := by rw [hnd, if_neg (by omega), if_pos (by omega)] at hl; omega
    match args, hl1, ha, hs with
    | [a], _, ha, hs =>
      have h1 := ha a (List.mem_cons_self ..)
      simp only [List.flatMap_cons, List.flatMap_nil, List.append_nil] at hs
      have hin := in_filter hf hn hT hW h1 (by omega) (hF.f (.inl hk)) ho.h
      have hw := wh_in hf hn hT hW hin (by simp) (by omega) (ops := a.2 ++ [o]) (by rw [nel hf hn hT hW h1.ne, List.map_cons, List.map_nil, ← e]) (by simp; omega)
      rw [if_neg (by omega), if_neg (by omega), if_neg (by omega), if_neg (by omega), if_neg (by omega), if_neg (by omega), if_pos hk]
      refine ⟨⟨_, rfl⟩, ?_, by simp⟩
      simp only [List.map_cons, List.map_nil, List.getD_cons_zero, List.flatMap_cons, List.flatMap_nil, List.append_nil]; exact hw
  · -- extend
    have hl1 : args.length = 1 := by rw [hnd, if_neg (by omega), if_pos (by omega)] at hl; omega
    match args, hl1, ha, hs with
    | [a], _, ha, hs =>
      have h1 := ha a (List.mem_cons_self ..)
      simp only [List.flatMap_cons, List.flatMap_nil, List.append_nil] at hs
      have hin := in_two hf hn hT hW h1 (by omega) (w := wKey [66, 73, 78, 68]) (q := wSig [40] :: (fW o.f3 ++ [wKey [65, 83], wVar o.f4, wSig [41]])) (c := a.2 ++ [extO o.f3 o.f4]) (D := 2 * a.1.length) (by omega) (key_el hf hn hT hW _ (by decide)) (fun h => by have := (key_is _ _).1 h; revert this; decide) fun d i A rest hD hA hd => by
        obtain ⟨E_, h3, h4⟩ := el_bind hf hn hT hW d hA h1.ne (by omega) (hF.f (.inr hk)) ho.h (s := o.f4) (i := i) (rest := wSig [125] :: rest) (by rw [hd]; simp)
        refine ⟨E_, h3, fun K => ?_⟩
        rw [h4]; congr 2; simp
      rw [← e] at hin
      have hw := wh_in hf hn hT hW hin (by simp) (by simp; omega) (ops := a.2 ++ [o]) (by rw [nel hf hn hT hW (by simp)]; simp) (by simp; omega)
      rw [if_neg (by omega), if_neg (by omega), if_neg (by omega), if_neg (by omega), if_neg (by omega), if_neg (by omega), if_neg (by omega), if_pos hk]
      refine ⟨⟨_, rfl⟩, ?_, by simp⟩
      have e2 : wSig [123] :: (a.1 ++ wKey [66, 73, 78, 68] :: wSig [40] :: (fW o.f3 ++ [wKey [65, 83], wVar o.f4, wSig [41], wSig [125]])) = wSig [123] :: (a.1 ++ wKey [66, 73, 78, 68] :: (wSig [40] :: (fW o.f3 ++ [wKey [65, 83], wVar o.f4, wSig [41]]) ++ [wSig [125]])) := by simp
      simp only [List.map_cons, List.map_nil, List.getD_cons_zero, List.flatMap_cons, List.flatMap_nil, List.append_nil, e2]; exact hw
  -- service
  have hl1 : args.length = 1 := by rw [hnd, if_neg (by omega), if_pos (by omega)] at hl; omega
  match args, hl1, ha, hs with
  | [a], _, ha, hs =>
    have h1 := ha a (List.mem_cons_self ..)
    simp only [List.flatMap_cons, List.flatMap_nil, List.append_nil] at hs
    have hin := in_one hf hn hT hW (w := wKey [83, 69, 82, 86, 73, 67, 69]) (q := (if o.f5 = true then [wKey [83, 73, 76, 69, 78, 84]] else []) ++ wTm ⟨1, o.f4, ⟨#[]⟩, ⟨#[]⟩⟩ :: a.1) (c := a.2 ++ [servO o.f4 o.f5]) (D := 2 * a.1.length) (key_el hf hn hT hW _ (by decide)) fun d i rest hD hd => by
      obtain ⟨E_, h3, h4⟩ := el_service hf hn hT hW d h1.w hD (by omega) (s := o.f4) (p := o.f5) (i := i) (rest := wSig [125] :: rest) (by rw [hd]; simp)
      refine ⟨E_, h3, fun K => ?_⟩
      rw [h4]; congr 2; cases o.f5 <;> simp <;> omega
    rw [← e] at hin
    have hw := wh_in hf hn hT hW hin (by simp) (by simp; omega) (ops := a.2 ++ [o]) (by rw [nel hf hn hT hW (by simp)]; simp) (by cases o.f5 <;> simp <;> omega)
    rw [if_neg (by omega), if_neg (by omega), if_neg (by omega), if_neg (by omega), if_neg (by omega), if_neg (by omega), if_neg (by omega), if_neg (by omega)]
    refine ⟨⟨_, rfl⟩, ?_, by simp⟩
    have e2 : wSig [123] :: wKey [83, 69, 82, 86, 73, 67, 69] :: ((if o.f5 = true then [wKey [83, 73, 76, 69, 78, 84]] else []) ++ wTm ⟨1, o.f4, ⟨#[]⟩, ⟨#[]⟩⟩ :: (a.1 ++ [wSig [125]])) = wSig [123] :: (wKey [83, 69, 82, 86, 73, 67, 69] :: ((if o.f5 = true then [wKey [83, 73, 76, 69, 78, 84]] else []) ++ wTm ⟨1, o.f4, ⟨#[]⟩, ⟨#[]⟩⟩ :: a.1 ++ [wSig [125]])) := by simp
    simp only [List.map_cons, List.map_nil, List.getD_cons_zero, List.flatMap_cons, List.flatMap_nil, List.append_nil, e2]; exact hw
theorem code_sub: ∀ (r:List OpS) (st:List (List TokS × List OpS)),okRunP st.length r→(∀ o ∈ r,o.lt n)→(∀ a ∈ st,Sub n l WS a)→(st.flatMap Prod.snd).length+r.length≤300→ ∃ ws,codeW r (st.map Prod.fst)= [ws]∧Sub n l WS (ws,st.flatMap Prod.snd++r)
 | [],st,hc,ho,ha,hs=>by
  match st,(show st.length=1 from hc),ha with
  | [a],_,ha=>exact⟨a.1,rfl,by simpa using ha a (List.mem_cons_self ..)⟩
 |o::r,st,hc,ho,ha,hs=>by
  have hc':okRunP (st.map fun _=>([]:List UInt8)).length (o::r):=(by rw[List.length_map];exact hc);obtain⟨hok,N,hN,hle,h2,hd,hc2,_,_,_⟩:=code_step hc';simp only[List.length_map,List.length_append,List.length_take,List.length_cons,List.length_nil]at hle hc2 hs;have hlen:(st.drop (st.length - N)).length=N:=(by rw[List.length_drop];omega);have e:st.flatMap Prod.snd=(st.take (st.length - N)).flatMap Prod.snd++(st.drop (st.length - N)).flatMap Prod.snd:=(by rw[← List.flatMap_append,List.take_append_drop]);have hel:=congrArg List.length e;rw[List.length_append]at hel;have hnew:=op_sub hf hn hT hW hok (ho o (List.mem_cons_self ..)) (st.drop (st.length - N)) (by rw[hlen,hN]) (fun a h=>ha a (List.mem_of_mem_drop h)) (by omega);obtain⟨ws,h1,h3⟩:=code_sub r (st.take (st.length - N)++ [(opW o ((st.drop (st.length - N)).map Prod.fst),(st.drop (st.length - N)).flatMap Prod.snd++ [o])]) (by
   simp only[List.length_append,List.length_take,List.length_cons,List.length_nil];exact hc2) (fun q hq=>ho q (List.mem_cons_of_mem _ hq)) (fun a h=>by
   rcases List.mem_append.1 h with h|h
   ·exact ha a (List.mem_of_mem_take h)
   ·rw[List.mem_singleton.1 h];exact hnew) (by
   rw[List.flatMap_append,List.length_append]
   simp only[List.flatMap_cons,List.flatMap_nil,List.append_nil,List.length_append,List.length_cons,List.length_nil];omega)
  refine⟨ws,?_,?_⟩
  ·rw[codeW,hN,Int.toNat_natCast,List.length_map];rw[List.map_append,List.map_take,List.map_drop]at h1;exact h1
  rw[List.flatMap_append]at h3;simp only[List.flatMap_cons,List.flatMap_nil,List.append_nil]at h3;rw[e];simpa using h3
end
/-- a code's words -/
def cW (c : List OpS) : List TokS := (codeW c []).getD 0 []
theorem cW_J {c:List OpS} (h:okRunP 0 c):codeW c []= [cW c]∧cW c≠ []∧codeT c=J (cW c):=by
 have h1:=code_one c [] h;have hj:=code_J c [] h (fun y hy=>by cases hy);rw[List.map_nil]at hj;unfold cW codeT;match hq:codeW c [],hj with
 | [w],hj=>exact⟨rfl,hj.2 w (List.mem_cons_self ..),by rw[hj.1];rfl⟩
 | [],hj=>rw[hj.1]at h1;simp at h1
 |_::_::_,hj=>rw[hj.1]at h1;simp at h1
theorem code_g {n:Nat} (hf:Fuel n) (hn:40000≤n) {c:List OpS} {l:RW} (hT:Toks l (cW c)) (hW:(cW c).length≤4096) (ho: ∀ o ∈ c,o.lt n) (hc:c.length≤128) (hr:okRunP 0 c) (hres:(resultsP c).2=0):
 ∃ rows,RowsR rOp rows c∧ ∀ K,query_Code.g n l 0 K=K rows ((cW c).length:Int) 0:=by
 obtain⟨ws,h1,h2⟩:=code_sub hf hn hT hW c [] hr ho (fun a h=>by cases h) (by simp;omega);have e:ws=cW c:=(by unfold cW;rw[show([]:List (List TokS × List OpS)).map Prod.fst= []from rfl]at h1;rw[h1];rfl);subst e;obtain⟨rows,h3,h4⟩:=h2.w n 0 [] (by simp) (by show 2*(cW c).length≤n;omega);simp only[List.flatMap_nil,List.nil_append]at h3;refine⟨rows,h3,fun K=>?_⟩;have hll:=hT.1;unfold query_Code.g;simp only[bifd];rw[if_neg (by decide),if_neg (by omega)];refine(h4 _).trans ?_;rw[cond_false];unfold scope_Check.g;rw[unRows_mk unOp_mk h3];simp only[if_pos (show Fuel n∧c.length<n∧ ∀ o ∈ c,o.lt n from⟨hf,by omega,ho⟩),hres];rw[Nat.zero_add];rfl
end Go.Proofs.YtcfoebkbahpnaaaGreat.Ab
