/- PrintCodeBack: whatever the code: true; what came in reads as it did. No condition. -/
import Derived.Test.YtcfoebkbahpnaaaGreatZFzc
import Derived.Test.YtcfoebkbahpnaaaGreatZLt
import Derived.Test.YtcfoebkbahpnaaaGreatRows
import Derived.Test.YtcfoebkbahpnaaaGreatZHw
namespace Go.Proofs.YtcfoebkbahpnaaaGreat.Ab
open Go Go.Proofs.YtcfoebkbahpnaaaGreat
theorem v35 (n:Nat):EnvOK G.P (E n (Hs n) 35):=EnvOK.take (by kernel_rfl) (v34 n) (Hd.h10 n)
theorem v36 (n:Nat):EnvOK G.P (E n (Hs n) 36):=EnvOK.take (by kernel_rfl) (v35 n) (ok4 n (v35 n))
theorem v37 (n:Nat):EnvOK G.P (E n (Hs n) 37):=EnvOK.take (by kernel_rfl) (v36 n) (ok5 n (v36 n))
theorem v38 (n:Nat):EnvOK G.P (E n (Hs n) 38):=EnvOK.take (by kernel_rfl) (v37 n) (ok18 n (v37 n))
theorem v39 (n:Nat):EnvOK G.P (E n (Hs n) 39):=EnvOK.take (by kernel_rfl) (v38 n) (ok34 n (v38 n))
theorem v40 (n:Nat):EnvOK G.P (E n (Hs n) 40):=EnvOK.take (by kernel_rfl) (v39 n) (ok19 n (v39 n))
theorem v41 (n:Nat):EnvOK G.P (E n (Hs n) 41):=EnvOK.take (by kernel_rfl) (v40 n) (ok20 n (v40 n))
theorem v42 (n:Nat):EnvOK G.P (E n (Hs n) 42):=EnvOK.take (by kernel_rfl) (v41 n) (ok11 n (v41 n))
theorem v43 (n:Nat):EnvOK G.P (E n (Hs n) 43):=EnvOK.take (by kernel_rfl) (v42 n) (ok60 n (v42 n))
theorem v44 (n:Nat):EnvOK G.P (E n (Hs n) 44):=EnvOK.take (by kernel_rfl) (v43 n) (ok64 n (v43 n))
theorem v45 (n:Nat):EnvOK G.P (E n (Hs n) 45):=EnvOK.take (by kernel_rfl) (v44 n) (ok83 n (v44 n))
theorem v46 (n:Nat):EnvOK G.P (E n (Hs n) 46):=EnvOK.take (by kernel_rfl) (v45 n) (ok61 n (v45 n))
theorem v47 (n:Nat):EnvOK G.P (E n (Hs n) 47):=EnvOK.take (by kernel_rfl) (v46 n) (ok84 n (v46 n))
theorem v48 (n:Nat):EnvOK G.P (E n (Hs n) 48):=EnvOK.take (by kernel_rfl) (v47 n) (ok85 n (v47 n))
theorem v49 (n:Nat):EnvOK G.P (E n (Hs n) 49):=EnvOK.take (by kernel_rfl) (v48 n) (ok98 n (v48 n))
theorem v50 (n:Nat):EnvOK G.P (E n (Hs n) 50):=EnvOK.take (by kernel_rfl) (v49 n) (ok86 n (v49 n))
theorem v51 (n:Nat):EnvOK G.P (E n (Hs n) 51):=EnvOK.take (by kernel_rfl) (v50 n) (ok62 n (v50 n))
theorem v52 (n:Nat):EnvOK G.P (E n (Hs n) 52):=EnvOK.take (by kernel_rfl) (v51 n) (ok87 n (v51 n))
theorem v53 (n:Nat):EnvOK G.P (E n (Hs n) 53):=EnvOK.take (by kernel_rfl) (v52 n) (ok63 n (v52 n))
theorem v54 (n:Nat):EnvOK G.P (E n (Hs n) 54):=EnvOK.take (by kernel_rfl) (v53 n) (ok35 n (v53 n))
theorem v55 (n:Nat):EnvOK G.P (E n (Hs n) 55):=EnvOK.take (by kernel_rfl) (v54 n) (ok36 n (v54 n))
theorem v56 (n:Nat):EnvOK G.P (E n (Hs n) 56):=EnvOK.take (by kernel_rfl) (v55 n) (ok21 n (v55 n))
theorem v57 (n:Nat):EnvOK G.P (E n (Hs n) 57):=EnvOK.take (by kernel_rfl) (v56 n) (ok12 n (v56 n))
theorem v58 (n:Nat):EnvOK G.P (E n (Hs n) 58):=EnvOK.take (by kernel_rfl) (v57 n) (ok6 n (v57 n))
theorem v59 (n:Nat):EnvOK G.P (E n (Hs n) 59):=EnvOK.take (by kernel_rfl) (v58 n) (ok39 n (v58 n))
theorem v60 (n:Nat):EnvOK G.P (E n (Hs n) 60):=EnvOK.take (by kernel_rfl) (v59 n) (ok65 n (v59 n))
theorem v61 (n:Nat):EnvOK G.P (E n (Hs n) 61):=EnvOK.take (by kernel_rfl) (v60 n) (ok38 n (v60 n))
theorem v62 (n:Nat):EnvOK G.P (E n (Hs n) 62):=EnvOK.take (by kernel_rfl) (v61 n) (ok37 n (v61 n))
theorem v63 (n:Nat):EnvOK G.P (E n (Hs n) 63):=EnvOK.take (by kernel_rfl) (v62 n) (ok66 n (v62 n))
theorem v64 (n:Nat):EnvOK G.P (E n (Hs n) 64):=EnvOK.take (by kernel_rfl) (v63 n) (ok41 n (v63 n))
theorem v65 (n:Nat):EnvOK G.P (E n (Hs n) 65):=EnvOK.take (by kernel_rfl) (v64 n) (ok40 n (v64 n))
theorem v66 (n:Nat):EnvOK G.P (E n (Hs n) 66):=EnvOK.take (by kernel_rfl) (v65 n) (ok42 n (v65 n))
theorem v67 (n:Nat):EnvOK G.P (E n (Hs n) 67):=EnvOK.take (by kernel_rfl) (v66 n) (ok100 n (v66 n))
theorem v68 (n:Nat):EnvOK G.P (E n (Hs n) 68):=EnvOK.take (by kernel_rfl) (v67 n) (ok106 n (v67 n))
theorem v69 (n:Nat):EnvOK G.P (E n (Hs n) 69):=EnvOK.take (by kernel_rfl) (v68 n) (ok101 n (v68 n))
theorem v70 (n:Nat):EnvOK G.P (E n (Hs n) 70):=EnvOK.take (by kernel_rfl) (v69 n) (ok102 n (v69 n))
theorem v71 (n:Nat):EnvOK G.P (E n (Hs n) 71):=EnvOK.take (by kernel_rfl) (v70 n) (ok107 n (v70 n))
theorem up_recP (n:Nat) (hs:Hd) (v71:EnvOK G.P (E n hs 71)) (e89:Ent G.P 89 (sp89 hs.h89)) (e99:Ent G.P 99 (sp99 hs.h99)):EnvOK G.P (E n hs 76):=by
 have v72:EnvOK G.P (E n hs 72):=EnvOK.take (by kernel_rfl) v71 e89;have v73:EnvOK G.P (E n hs 73):=EnvOK.take (by kernel_rfl) v72 e99;have v74:EnvOK G.P (E n hs 74):=EnvOK.take (by kernel_rfl) v73 (ok109 n hs v73);have v75:EnvOK G.P (E n hs 75):=EnvOK.take (by kernel_rfl) v74 (ok108 n hs v74);have v76:EnvOK G.P (E n hs 76):=EnvOK.take (by kernel_rfl) v75 (ok105 n hs v75);exact v76
def H_recP (n d : Nat) : Hd := ⟨(recP n d).h89, (recP n d).h99, (recR n n).h22⟩
theorem z_89 (n:Nat):Ent G.P 89 (sp89 (recP n 0).h89):=fun args objs K r h=>by
 obtain⟨a1',a2',rfl,k1'⟩:=hdL_inv h;obtain⟨rfl,k2'⟩:=pA_inv k1';obtain⟨a3',a4',rfl,k3'⟩:=hdL_inv k2';obtain⟨x0,rfl,k4'⟩:=iA_inv k3';obtain⟨rfl,k5'⟩:=endL_inv k4';obtain⟨o5',o6',rfl,k6'⟩:=hdL_inv k5';obtain⟨c7',c8',rfl,k7'⟩:=hdL_inv k6';obtain⟨x1,e',k8'⟩:=lA_inv k7';cases e';obtain⟨c9',c10',rfl,k9'⟩:=hdL_inv k8';obtain⟨x2,e',k10'⟩:=iA_inv k9';cases e';obtain⟨c11',c12',rfl,k11'⟩:=hdL_inv k10';obtain⟨x3,e',k12'⟩:=lA_inv k11';cases e';obtain⟨c13',c14',rfl,k13'⟩:=hdL_inv k12';obtain⟨x4,e',k14'⟩:=bA_inv k13';cases e';obtain⟨rfl,k15'⟩:=endL_inv k14';obtain⟨rfl,k16'⟩:=endL_inv k15';exact nomatch (show(none:Option R)=some r from k16')
theorem z_99 (n:Nat):Ent G.P 99 (sp99 (recP n 0).h99):=fun args objs K r h=>by
 obtain⟨a1',a2',rfl,k1'⟩:=hdL_inv h;obtain⟨rfl,k2'⟩:=pA_inv k1';obtain⟨rfl,k3'⟩:=endL_inv k2';obtain⟨o3',o4',rfl,k4'⟩:=hdL_inv k3';obtain⟨c5',c6',rfl,k5'⟩:=hdL_inv k4';obtain⟨x0,e',k6'⟩:=lA_inv k5';cases e';obtain⟨c7',c8',rfl,k7'⟩:=hdL_inv k6';obtain⟨x1,e',k8'⟩:=iA_inv k7';cases e';obtain⟨c9',c10',rfl,k9'⟩:=hdL_inv k8';obtain⟨x2,e',k10'⟩:=lA_inv k9';cases e';obtain⟨c11',c12',rfl,k11'⟩:=hdL_inv k10';obtain⟨x3,e',k12'⟩:=bA_inv k11';cases e';obtain⟨rfl,k13'⟩:=endL_inv k12';obtain⟨rfl,k14'⟩:=endL_inv k13';exact nomatch (show(none:Option R)=some r from k14')
theorem b_recP (n:Nat) (d:Nat):EnvOK G.P (E n (H_recP n d) 71):=(show E n (Hs n) 71=E n (H_recP n d) 71 by kernel_rfl) ▸ v71 n
theorem r_recP (n:Nat): ∀ d,EnvOK G.P (E n (H_recP n d) 76)
 |0=>up_recP n (H_recP n 0) (b_recP n 0) (z_89 n) (z_99 n)
 |d+1=>up_recP n (H_recP n (d+1)) (b_recP n (d+1)) (ok89 n (H_recP n d) (r_recP n d)) (ok99 n (H_recP n d) (r_recP n d))
theorem v76 (n:Nat):EnvOK G.P (E n (Hs n) 76):=(show E n (H_recP n n) 76=E n (Hs n) 76 by kernel_rfl) ▸ r_recP n n
theorem v77 (n:Nat):EnvOK G.P (E n (Hs n) 77):=EnvOK.take (by kernel_rfl) (v76 n) (ok68 n (v76 n))
theorem v78 (n:Nat):EnvOK G.P (E n (Hs n) 78):=EnvOK.take (by kernel_rfl) (v77 n) (ok43 n (v77 n))
theorem v79 (n:Nat):EnvOK G.P (E n (Hs n) 79):=EnvOK.take (by kernel_rfl) (v78 n) (ok45 n (v78 n))
theorem v80 (n:Nat):EnvOK G.P (E n (Hs n) 80):=EnvOK.take (by kernel_rfl) (v79 n) (ok69 n (v79 n))
theorem v81 (n:Nat):EnvOK G.P (E n (Hs n) 81):=EnvOK.take (by kernel_rfl) (v80 n) (ok90 n (v80 n))
theorem v82 (n:Nat):EnvOK G.P (E n (Hs n) 82):=EnvOK.take (by kernel_rfl) (v81 n) (ok70 n (v81 n))
theorem up_recR (n:Nat) (hs:Hd) (v82:EnvOK G.P (E n hs 82)) (e22:Ent G.P 22 (sp22 hs.h22)):EnvOK G.P (E n hs 85):=by
 have v83:EnvOK G.P (E n hs 83):=EnvOK.take (by kernel_rfl) v82 e22;have v84:EnvOK G.P (E n hs 84):=EnvOK.take (by kernel_rfl) v83 (ok13 n hs v83);have v85:EnvOK G.P (E n hs 85):=EnvOK.take (by kernel_rfl) v84 (ok44 n hs v84);exact v85
def H_recR (n d : Nat) : Hd := ⟨(recP n n).h89, (recP n n).h99, (recR n d).h22⟩
theorem z_22 (n:Nat):Ent G.P 22 (sp22 (recR n 0).h22):=fun args objs K r h=>by
 obtain⟨a1',a2',rfl,k1'⟩:=hdL_inv h;obtain⟨rfl,k2'⟩:=pA_inv k1';obtain⟨rfl,k3'⟩:=endL_inv k2';obtain⟨o3',o4',rfl,k4'⟩:=hdL_inv k3';obtain⟨c5',c6',rfl,k5'⟩:=hdL_inv k4';obtain⟨x0,e',k6'⟩:=lA_inv k5';cases e';obtain⟨c7',c8',rfl,k7'⟩:=hdL_inv k6';obtain⟨x1,e',k8'⟩:=iA_inv k7';cases e';obtain⟨c9',c10',rfl,k9'⟩:=hdL_inv k8';obtain⟨x2,e',k10'⟩:=bA_inv k9';cases e';obtain⟨rfl,k11'⟩:=endL_inv k10';obtain⟨rfl,k12'⟩:=endL_inv k11';exact nomatch (show(none:Option R)=some r from k12')
theorem b_recR (n:Nat) (d:Nat):EnvOK G.P (E n (H_recR n d) 82):=(show E n (Hs n) 82=E n (H_recR n d) 82 by kernel_rfl) ▸ v82 n
theorem r_recR (n:Nat): ∀ d,EnvOK G.P (E n (H_recR n d) 85)
 |0=>up_recR n (H_recR n 0) (b_recR n 0) (z_22 n)
 |d+1=>up_recR n (H_recR n (d+1)) (b_recR n (d+1)) (ok22 n (H_recR n d) (r_recR n d))
theorem v85 (n:Nat):EnvOK G.P (E n (Hs n) 85):=(show E n (H_recR n n) 85=E n (Hs n) 85 by kernel_rfl) ▸ r_recR n n
theorem v86 (n:Nat):EnvOK G.P (E n (Hs n) 86):=EnvOK.take (by kernel_rfl) (v85 n) (ok7 n (v85 n))
theorem v87 (n:Nat):EnvOK G.P (E n (Hs n) 87):=EnvOK.take (by kernel_rfl) (v86 n) (ok23 n (v86 n))
theorem v88 (n:Nat):EnvOK G.P (E n (Hs n) 88):=EnvOK.take (by kernel_rfl) (v87 n) (ok24 n (v87 n))
theorem v89 (n:Nat):EnvOK G.P (E n (Hs n) 89):=EnvOK.take (by kernel_rfl) (v88 n) (ok25 n (v88 n))
theorem v90 (n:Nat):EnvOK G.P (E n (Hs n) 90):=EnvOK.take (by kernel_rfl) (v89 n) (ok14 n (v89 n))
theorem v91 (n:Nat):EnvOK G.P (E n (Hs n) 91):=EnvOK.take (by kernel_rfl) (v90 n) (ok8 n (v90 n))
theorem v92 (n:Nat):EnvOK G.P (E n (Hs n) 92):=EnvOK.take (by kernel_rfl) (v91 n) (ok3 n (v91 n))
end Go.Proofs.YtcfoebkbahpnaaaGreat.Ab

namespace Go.Proofs.YtcfoebkbahpnaaaGreat.printCodeBack
open Go.ChangeShapes Go.WideShapes Go.ChangeAt Go.RowKit
open Go.Proofs.YtcfoebkbahpnaaaGreat.Hd
open Ab (DV Dat OpS)
set_option linter.unusedVariables false
theorem own : ownKnob Tryz.prog.godebug = none := by kernel_rfl
abbrev fl : Nat := 200000000000000
theorem fuel_fl : Ab.Fuel fl := ⟨by decide, by decide⟩
theorem op_lt {o : OpS} (h : opG o) : o.lt fl := by
  obtain ⟨⟨a, b⟩, ⟨c, d⟩, ⟨e, f⟩, ⟨g, i⟩, j⟩ := h
  have hr : reachBytes = 140737488351232 := rfl
  have str : ∀ {s : ByteArray}, strG s → s.size < fl := fun {s} h => by
    have : s.size ≤ reachBytes := h
    show s.size < 200000000000000
    omega
  have ter : ∀ {t : Ab.TermS}, termG t → t.lt fl := fun {t} ⟨h1, h2, h3⟩ => ⟨str h1, str h2, str h3⟩
  refine ⟨?_, fun t ht => ?_, ?_, fun s hs => str (d s hs), ?_, fun r hr' => ?_, ?_, fun p hp => ?_, str j⟩
  · show o.f1.length < 200000000000000
    omega
  · obtain ⟨p, q, r⟩ := b t ht
    exact ⟨ter p, ter q, ter r⟩
  · show o.f2.f0.length < 200000000000000
    omega
  · show o.f2.f1.length < 200000000000000
    omega
  · obtain ⟨p, q⟩ := f r hr'
    refine ⟨?_, fun t ht => ter (p t ht)⟩
    show r.length < 200000000000000
    rw [bytes46] at q
    omega
  · show o.f3.length < 200000000000000
    omega
  · obtain ⟨p1, p2⟩ := i p hp
    exact ⟨ter p1, str p2⟩
theorem env3 (n : Nat) : Ab.E n (Ab.Hs n) 92 3 = Ab.sp3 n (Ab.Hs n) := by kernel_rfl
theorem law_at {c : List OpS} (hc : c.length < fl) (ho : ∀ o ∈ c, o.lt fl) : Ab.E fl (Ab.Hs fl) 92 3 [.d (.sl false 7 (c.map Ab.eOp))] [] some = some (Ab.B true, []) := by
  rw [env3]
  exact Ab.law_g c fuel_fl (by decide) hc ho _
set_option maxRecDepth 100000 in
theorem lifted (os : Os) (started : os.Started) (H : Type) (enc : TypeId × Value → H) :
    ReturnsInHanded {} Tryz.checked os 3 .any (Rows.printCodeBackSpec.pre6 enc Tryz.prog Tryz.f3 Rows.printCodeBackRow.domain false) (Rows.printCodeBackSpec.post enc Tryz.prog Tryz.f3 false true false false) := by
  refine returnsInHanded_of_change_sized (C := Tryz.checked) own started (by kernel_rfl) Tryz.func3
    (ChangeSpec.witness6 (enc := enc) (C := Tryz.checked) false ⟨#[], #[.slice none 0 0], []⟩ 8 (by kernel_rfl) (by kernel_rfl) (by kernel_rfl) (by kernel_rfl)) ?_
  intro W base args ds gs before hval0 hW hcnd hsz0 _
  have hsz : (DataW.weightsEach Tryz.prog (Tryz.f3.params.toList ++ Rows.printCodeBackSpec.plain.varTypes Tryz.prog) (ds ++ gs)).all (· ≤ reachBytes) = true := hsz0
  have hval : ∀ (j : Nat) t v, Tryz.f3.params[j]? = some t → args[j]? = some v → Value.okWide Tryz.prog W .any base t v := hval0
  have hW' := hW
  obtain ⟨p, q, hA0, hV, rfl, hfz, hnd⟩ := hW
  have hA : DataW.TrodAll enc Tryz.prog W 0 (fun _ => true) true Tryz.f3.params.toList args.toList ds p := hA0
  rw [Tryz.params3] at hA hval hsz
  obtain ⟨v0, vs0, d0, ds0, p0, q0, hargs, rfl, rfl, h0, r0⟩ := trodAll_cons hA
  obtain ⟨rfl, rfl, rfl⟩ := trodAll_nil r0
  obtain rfl : args = #[v0] := by cases args; simp_all
  obtain ⟨rfl, rfl⟩ := trodVars_none hV
  have l0 : Light' Tryz.prog 22 d0 := light_each hsz (j := 0) rfl rfl
  obtain ⟨a0, n0, c0, rfl⟩ := okWide_slice Tryz.underlying22 (hval 0 22 v0 rfl rfl)
  have k0 := h0
  obtain ⟨fuel0, f0⟩ := h0
  obtain ⟨A0, c, cc0, e0, hc0, hC0, hG0, hL0⟩ := code_of f0 l0
  simp [Value.cells] at e0
  obtain ⟨rfl, rfl, rfl⟩ := e0
  clear hA0 hval0 hsz0 hsz f0
  have hr : reachBytes = 140737488351232 := rfl
  rw [bytes43] at hL0
  refine (calls_of (Ab.v92 fl) (f := 3) (xs := [.sl false 7 (c.map Ab.eOp)]) (law_at (by show c.length < 200000000000000; omega) (fun o ho => op_lt (hG0 o ho))) (fun x hx => by simp at hx; subst hx; rfl) (DL.cons (ops_D hc0 hC0) .nil)).mono fun e W' ⟨v, D, he, bel, hd⟩ => ?_
  subst he
  obtain rfl := dat_v hd
  exact ⟨_, rfl, _, _, _, [], _, [], hW', trodAll_mk1 (shut_bool Tryz.underlying4 _), (trodAll_cons_mk (later_ (of_decide_eq_true (by kernel_rfl)) bel k0) trodAll_mk0), rfl, bel.frame _, fun h => by cases h⟩
theorem over : Rows.printCodeBackRow.holds Tryz.pinned (OpenSpec.ofChange Rows.printCodeBackSpec) :=
  OpenClaim.holds_of_wide 3 Tryz.f3 rfl rfl rfl rfl rfl rfl rfl ⟨rfl, rfl, rfl, rfl, rfl⟩ rfl rfl rfl rfl rfl (by kernel_rfl) Tryz.func3 (by kernel_rfl)
    (of_decide_eq_true (by kernel_rfl)) (by unfold Func.isWrapper; first | (rw [if_pos (by decide +kernel)]; kernel_rfl) | (rw [if_neg (by decide +kernel)]; exact ⟨rfl, rfl⟩))
    (fun os started H enc _ => lifted os started H enc)
end Go.Proofs.YtcfoebkbahpnaaaGreat.printCodeBack
namespace Go.Proofs.YtcfoebkbahpnaaaGreat
theorem PrintCodeBack_holds : Rows.PrintCodeBackSaid := printCodeBack.over
#print axioms PrintCodeBack_holds
end Go.Proofs.YtcfoebkbahpnaaaGreat
