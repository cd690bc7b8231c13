import Derived.Test.YtcfoebkbahpnaaaGreatZF9
import Derived.Test.YtcfoebkbahpnaaaGreatZHk
import Derived.Test.YtcfoebkbahpnaaaGreatZShelf
set_option linter.unusedVariables false
namespace Go.Proofs.YtcfoebkbahpnaaaGreat.Ab
open Go
theorem ol22_4 (n:Nat) (hs:Hd) (hV:EnvOK G.P (E n hs 85)):LvOf G (E n hs 85) (G.fc 22) 1 n cl22_4 (sl22_4 n hs):=
 LvOf_r (lv:=(lv22 n hs)) (L:= [0,4,5]) (bx:= [1]) hV (LvC_of (l:= []) (by kernel_rfl) (all_nil)) (by kernel_rfl) (by kernel_rfl) fun m F O K r hF h=>by
  obtain⟨e0,k1'⟩:=pA_inv h;obtain⟨x0,e4,k2'⟩:=lA_inv k1';obtain⟨x1,e5,k3'⟩:=lA_inv k2';obtain⟨o1',o2',rfl,k4'⟩:=hdL_inv k3';obtain⟨c3',rfl,k5'⟩:=soC_inv k4';obtain⟨c4',c5',rfl,k6'⟩:=hdL_inv k5';obtain⟨x2,e',k7'⟩:=lA_inv k6';cases e';obtain⟨c6',c7',rfl,k8'⟩:=hdL_inv k7';obtain⟨x3,e',k9'⟩:=iA_inv k8';cases e';obtain⟨c8',c9',rfl,k10'⟩:=hdL_inv k9';obtain⟨x4,e',k11'⟩:=bA_inv k10';cases e';obtain⟨rfl,k12'⟩:=endL_inv k11';obtain⟨o10',o11',rfl,k13'⟩:=hdL_inv k12';obtain⟨rfl,k14'⟩:=noC_inv k13';obtain⟨rfl,k15'⟩:=endL_inv k14';simp only[List.map]at hF;rw[e0,e4,e5]at hF;cases m with
  |zero=>exact nomatch (show(none:Option R)=some r from k15')
  |succ m=>exact⟨m,rfl,fun K=>by rw[hF];kernel_rfl⟩
theorem ok22 (n:Nat) (hs:Hd) (hV:EnvOK G.P (E n hs 85)):Ent G.P 22 (sp22 (query_reader_group.g n hs.h22)):=fun args objs K r h=>by
 have h0:=h;obtain⟨a1',a2',rfl,k1'⟩:=hdL_inv h;obtain⟨rfl,k2'⟩:=pA_inv k1';obtain⟨rfl,k3'⟩:=endL_inv k2';obtain⟨o3',o4',rfl,k4'⟩:=hdL_inv k3';obtain⟨c5',c6',rfl,k5'⟩:=hdL_inv k4';obtain⟨x0,e',k6'⟩:=lA_inv k5';cases e';obtain⟨c7',c8',rfl,k7'⟩:=hdL_inv k6';obtain⟨x1,e',k8'⟩:=iA_inv k7';cases e';obtain⟨c9',c10',rfl,k9'⟩:=hdL_inv k8';obtain⟨x2,e',k10'⟩:=bA_inv k9';cases e';obtain⟨rfl,k11'⟩:=endL_inv k10';obtain⟨rfl,k12'⟩:=endL_inv k11'
 exact ent_of (lv:=(lv22 n hs)) (n:=n) (fn:=Tryz.f22) hE hM hV ⟨by kernel_rfl,by kernel_rfl,⟨b22,by kernel_rfl,by kernel_rfl⟩,Nat.le_of_ble_eq_true (by kernel_rfl),by kernel_rfl⟩ (fun body hb=>by
  obtain rfl:b22=body:=congrArg (fun o=>o.getD Code.skip) hb;exact LvC_of (l:= [(false,cl22_4)]) (by kernel_rfl) (all_cons (PcL (by kernel_rfl) (ol22_4 n hs hV)) (all_nil))) (fun K=>by kernel_rfl) h0
theorem ol13_3 (n:Nat) (hs:Hd) (hV:EnvOK G.P (E n hs 83)):LvOf G (E n hs 83) (G.fc 13) 1 n cl13_3 (sl13_3 n hs):=
 LvOf_r (lv:=(lv13 n hs)) (L:= [3,12,13,14]) (bx:= []) hV (LvC_of (l:= []) (by kernel_rfl) (all_nil)) (by kernel_rfl) (by kernel_rfl) fun m F O K r hF h=>by
  obtain⟨x0,e3,k1'⟩:=lA_inv h;obtain⟨x1,e12,k2'⟩:=lA_inv k1';obtain⟨x2,e13,k3'⟩:=iA_inv k2';obtain⟨x3,e14,k4'⟩:=iA_inv k3';obtain⟨o1',o2',rfl,k5'⟩:=hdL_inv k4';obtain⟨c3',rfl,k6'⟩:=soC_inv k5';obtain⟨c4',c5',rfl,k7'⟩:=hdL_inv k6';obtain⟨x4,e',k8'⟩:=lA_inv k7';cases e';obtain⟨c6',c7',rfl,k9'⟩:=hdL_inv k8';obtain⟨x5,e',k10'⟩:=iA_inv k9';cases e';obtain⟨c8',c9',rfl,k11'⟩:=hdL_inv k10';obtain⟨x6,e',k12'⟩:=bA_inv k11';cases e';obtain⟨rfl,k13'⟩:=endL_inv k12';obtain⟨rfl,k14'⟩:=endL_inv k13';simp only[List.map]at hF;rw[e3,e12,e13,e14]at hF;cases m with
  |zero=>exact nomatch (show(none:Option R)=some r from k14')
  |succ m=>exact⟨m,rfl,fun K=>by rw[hF];kernel_rfl⟩
theorem ok13 (n:Nat) (hs:Hd) (hV:EnvOK G.P (E n hs 83)):Ent G.P 13 (sp13 n hs):=fun args objs K r h=>by
 have h0:=h;obtain⟨a1',a2',rfl,k1'⟩:=hdL_inv h;obtain⟨rfl,k2'⟩:=pA_inv k1';obtain⟨rfl,k3'⟩:=endL_inv k2';obtain⟨o3',o4',rfl,k4'⟩:=hdL_inv k3';obtain⟨c5',c6',rfl,k5'⟩:=hdL_inv k4';obtain⟨x0,e',k6'⟩:=lA_inv k5';cases e';obtain⟨c7',c8',rfl,k7'⟩:=hdL_inv k6';obtain⟨x1,e',k8'⟩:=iA_inv k7';cases e';obtain⟨c9',c10',rfl,k9'⟩:=hdL_inv k8';obtain⟨x2,e',k10'⟩:=bA_inv k9';cases e';obtain⟨rfl,k11'⟩:=endL_inv k10';obtain⟨rfl,k12'⟩:=endL_inv k11'
 exact ent_of (lv:=(lv13 n hs)) (n:=n) (fn:=Tryz.f13) hE hM hV ⟨by kernel_rfl,by kernel_rfl,⟨b13,by kernel_rfl,by kernel_rfl⟩,Nat.le_of_ble_eq_true (by kernel_rfl),by kernel_rfl⟩ (fun body hb=>by
  obtain rfl:b13=body:=congrArg (fun o=>o.getD Code.skip) hb;exact LvC_of (l:= [(false,cl13_3)]) (by kernel_rfl) (all_cons (PcL (by kernel_rfl) (ol13_3 n hs hV)) (all_nil))) (fun K=>by kernel_rfl) h0
theorem ol44_5 (n:Nat) (hs:Hd) (hV:EnvOK G.P (E n hs 84)):LvOf G (E n hs 84) (G.fc 44) 1 n cl44_5 (sl44_5 n hs):=
 LvOf_r (lv:=(lv44 n hs)) (L:= [1,5,7,26,27,28]) (bx:= []) hV (LvC_of (l:= []) (by kernel_rfl) (all_nil)) (by kernel_rfl) (by kernel_rfl) fun m F O K r hF h=>by
  obtain⟨x0,e1,k1'⟩:=lA_inv h;obtain⟨x1,e5,k2'⟩:=lA_inv k1';obtain⟨e7,k3'⟩:=pA_inv k2';obtain⟨x2,e26,k4'⟩:=lA_inv k3';obtain⟨x3,e27,k5'⟩:=iA_inv k4';obtain⟨x4,e28,k6'⟩:=iA_inv k5';obtain⟨o1',o2',rfl,k7'⟩:=hdL_inv k6';obtain⟨c3',rfl,k8'⟩:=soC_inv k7';obtain⟨c4',c5',rfl,k9'⟩:=hdL_inv k8';obtain⟨x5,e',k10'⟩:=lA_inv k9';cases e';obtain⟨c6',c7',rfl,k11'⟩:=hdL_inv k10';obtain⟨x6,e',k12'⟩:=iA_inv k11';cases e';obtain⟨c8',c9',rfl,k13'⟩:=hdL_inv k12';obtain⟨x7,e',k14'⟩:=bA_inv k13';cases e';obtain⟨rfl,k15'⟩:=endL_inv k14';obtain⟨o10',o11',rfl,k16'⟩:=hdL_inv k15';obtain⟨c12',rfl,k17'⟩:=soC_inv k16';obtain⟨c13',c14',rfl,k18'⟩:=hdL_inv k17';obtain⟨x8,e',k19'⟩:=iA_inv k18';cases e';obtain⟨c15',c16',rfl,k20'⟩:=hdL_inv k19';obtain⟨x9,e',k21'⟩:=lA_inv k20';cases e';obtain⟨c17',c18',rfl,k22'⟩:=hdL_inv k21';obtain⟨x10,e',k23'⟩:=lA_inv k22';cases e';obtain⟨c19',c20',rfl,k24'⟩:=hdL_inv k23';obtain⟨x11,e',k25'⟩:=lA_inv k24';cases e';obtain⟨c21',c22',rfl,k26'⟩:=hdL_inv k25';obtain⟨x12,e',k27'⟩:=lA_inv k26';cases e';obtain⟨c23',c24',rfl,k28'⟩:=hdL_inv k27';obtain⟨x13,e',k29'⟩:=sA_inv k28';cases e';obtain⟨c25',c26',rfl,k30'⟩:=hdL_inv k29';obtain⟨x14,e',k31'⟩:=bA_inv k30';cases e';obtain⟨rfl,k32'⟩:=endL_inv k31';obtain⟨o27',o28',rfl,k33'⟩:=hdL_inv k32';obtain⟨rfl,k34'⟩:=noC_inv k33';obtain⟨o29',o30',rfl,k35'⟩:=hdL_inv k34';obtain⟨rfl,k36'⟩:=noC_inv k35';obtain⟨o31',o32',rfl,k37'⟩:=hdL_inv k36';obtain⟨rfl,k38'⟩:=noC_inv k37';obtain⟨rfl,k39'⟩:=endL_inv k38';simp only[List.map]at hF;rw[e1,e5,e7,e26,e27,e28]at hF;cases m with
  |zero=>exact nomatch (show(none:Option R)=some r from k39')
  |succ m=>exact⟨m,rfl,fun K=>by rw[hF];kernel_rfl⟩
theorem ol44_33 (n:Nat) (hs:Hd) (hV:EnvOK G.P (E n hs 84)):LvOf G (E n hs 84) (G.fc 44) 1 n cl44_33 (sl44_33 n hs):=
 LvOf_r (lv:=(lv44 n hs)) (L:= [0,1,14]) (bx:= []) hV (LvC_of (l:= []) (by kernel_rfl) (all_nil)) (by kernel_rfl) (by kernel_rfl) fun m F O K r hF h=>by
  obtain⟨e0,k1'⟩:=pA_inv h;obtain⟨x0,e1,k2'⟩:=lA_inv k1';obtain⟨x1,e14,k3'⟩:=lA_inv k2';obtain⟨o1',o2',rfl,k4'⟩:=hdL_inv k3';obtain⟨c3',rfl,k5'⟩:=soC_inv k4';obtain⟨c4',c5',rfl,k6'⟩:=hdL_inv k5';obtain⟨x2,e',k7'⟩:=lA_inv k6';cases e';obtain⟨c6',c7',rfl,k8'⟩:=hdL_inv k7';obtain⟨x3,e',k9'⟩:=iA_inv k8';cases e';obtain⟨c8',c9',rfl,k10'⟩:=hdL_inv k9';obtain⟨x4,e',k11'⟩:=bA_inv k10';cases e';obtain⟨rfl,k12'⟩:=endL_inv k11';obtain⟨o10',o11',rfl,k13'⟩:=hdL_inv k12';obtain⟨rfl,k14'⟩:=noC_inv k13';obtain⟨o12',o13',rfl,k15'⟩:=hdL_inv k14';obtain⟨rfl,k16'⟩:=noC_inv k15';obtain⟨o14',o15',rfl,k17'⟩:=hdL_inv k16';obtain⟨rfl,k18'⟩:=noC_inv k17';obtain⟨o16',o17',rfl,k19'⟩:=hdL_inv k18';obtain⟨rfl,k20'⟩:=noC_inv k19';obtain⟨rfl,k21'⟩:=endL_inv k20';simp only[List.map]at hF;rw[e0,e1,e14]at hF;cases m with
  |zero=>exact nomatch (show(none:Option R)=some r from k21')
  |succ m=>exact⟨m,rfl,fun K=>by rw[hF];kernel_rfl⟩
theorem ok44 (n:Nat) (hs:Hd) (hV:EnvOK G.P (E n hs 84)):Ent G.P 44 (sp44 n hs):=fun args objs K r h=>by
 have h0:=h;obtain⟨a1',a2',rfl,k1'⟩:=hdL_inv h;obtain⟨rfl,k2'⟩:=pA_inv k1';obtain⟨a3',a4',rfl,k3'⟩:=hdL_inv k2';obtain⟨x0,rfl,k4'⟩:=lA_inv k3';obtain⟨rfl,k5'⟩:=endL_inv k4';obtain⟨o5',o6',rfl,k6'⟩:=hdL_inv k5';obtain⟨c7',c8',rfl,k7'⟩:=hdL_inv k6';obtain⟨x1,e',k8'⟩:=lA_inv k7';cases e';obtain⟨c9',c10',rfl,k9'⟩:=hdL_inv k8';obtain⟨x2,e',k10'⟩:=iA_inv k9';cases e';obtain⟨c11',c12',rfl,k11'⟩:=hdL_inv k10';obtain⟨x3,e',k12'⟩:=bA_inv k11';cases e';obtain⟨rfl,k13'⟩:=endL_inv k12';obtain⟨rfl,k14'⟩:=endL_inv k13'
 exact ent_of (lv:=(lv44 n hs)) (n:=n) (fn:=Tryz.f44) hE hM hV ⟨by kernel_rfl,by kernel_rfl,⟨b44,by kernel_rfl,by kernel_rfl⟩,Nat.le_of_ble_eq_true (by kernel_rfl),by kernel_rfl⟩ (fun body hb=>by
  obtain rfl:b44=body:=congrArg (fun o=>o.getD Code.skip) hb;exact LvC_of (l:= [(false,cl44_5),(false,cl44_33)]) (by kernel_rfl) (all_cons (PcL (by kernel_rfl) (ol44_5 n hs hV)) (all_cons (PcL (by kernel_rfl) (ol44_33 n hs hV)) (all_nil)))) (fun K=>by kernel_rfl) h0
theorem ok7 (n:Nat) (hV:EnvOK G.P (E n (Hs n) 85)):Ent G.P 7 (sp7 n (Hs n)):=fun args objs K r h=>by
 have h0:=h;obtain⟨a1',a2',rfl,k1'⟩:=hdL_inv h;obtain⟨x0,rfl,k2'⟩:=lA_inv k1';obtain⟨a3',a4',rfl,k3'⟩:=hdL_inv k2';obtain⟨x1,rfl,k4'⟩:=iA_inv k3';obtain⟨rfl,k5'⟩:=endL_inv k4';obtain⟨rfl,k6'⟩:=endL_inv k5';exact ent_of (lv:=noLv) (n:=n) (fn:=Tryz.f7) hE hM hV ⟨by kernel_rfl,by kernel_rfl,⟨b7,by kernel_rfl,by kernel_rfl⟩,Nat.le_of_ble_eq_true (by kernel_rfl),by kernel_rfl⟩ (fun body hb=>by
  obtain rfl:b7=body:=congrArg (fun o=>o.getD Code.skip) hb;exact LvC_of (l:= []) (by kernel_rfl) (all_nil)) (fun K=>by kernel_rfl) h0
theorem ol23_4 (n:Nat) (hV:EnvOK G.P (E n (Hs n) 86)):LvOf G (E n (Hs n) 86) (G.fc 23) 0 n cl23_4 (sl23_4 n (Hs n)):=
 LvOf_r (lv:=(lv23 n (Hs n))) (L:= [0,1,5]) (bx:= []) hV (LvC_of (l:= []) (by kernel_rfl) (all_nil)) (by kernel_rfl) (by kernel_rfl) fun m F O K r hF h=>by
  obtain⟨x0,e0,k1'⟩:=lA_inv h;obtain⟨x1,e1,k2'⟩:=lA_inv k1';obtain⟨x2,e5,k3'⟩:=iA_inv k2';obtain⟨rfl,k4'⟩:=endL_inv k3';simp only[List.map]at hF;rw[e0,e1,e5]at hF;cases m with
  |zero=>exact nomatch (show(none:Option R)=some r from k4')
  |succ m=>exact⟨m,rfl,fun K=>by rw[hF];kernel_rfl⟩
theorem ok23 (n:Nat) (hV:EnvOK G.P (E n (Hs n) 86)):Ent G.P 23 (sp23 n (Hs n)):=fun args objs K r h=>by
 have h0:=h;obtain⟨a1',a2',rfl,k1'⟩:=hdL_inv h;obtain⟨x0,rfl,k2'⟩:=lA_inv k1';obtain⟨a3',a4',rfl,k3'⟩:=hdL_inv k2';obtain⟨x1,rfl,k4'⟩:=lA_inv k3';obtain⟨rfl,k5'⟩:=endL_inv k4';obtain⟨rfl,k6'⟩:=endL_inv k5';exact ent_of (lv:=(lv23 n (Hs n))) (n:=n) (fn:=Tryz.f23) hE hM hV ⟨by kernel_rfl,by kernel_rfl,⟨b23,by kernel_rfl,by kernel_rfl⟩,Nat.le_of_ble_eq_true (by kernel_rfl),by kernel_rfl⟩ (fun body hb=>by
  obtain rfl:b23=body:=congrArg (fun o=>o.getD Code.skip) hb;exact LvC_of (l:= [(false,cl23_4)]) (by kernel_rfl) (all_cons (PcL (by kernel_rfl) (ol23_4 n hV)) (all_nil))) (fun K=>by kernel_rfl) h0
theorem ol24_4 (n:Nat) (hV:EnvOK G.P (E n (Hs n) 87)):LvOf G (E n (Hs n) 87) (G.fc 24) 0 n cl24_4 (sl24_4 n (Hs n)):=
 LvOf_r (lv:=(lv24 n (Hs n))) (L:= [0,1,5]) (bx:= []) hV (LvC_of (l:= []) (by kernel_rfl) (all_nil)) (by kernel_rfl) (by kernel_rfl) fun m F O K r hF h=>by
  obtain⟨x0,e0,k1'⟩:=lA_inv h;obtain⟨x1,e1,k2'⟩:=lA_inv k1';obtain⟨x2,e5,k3'⟩:=iA_inv k2';obtain⟨rfl,k4'⟩:=endL_inv k3';simp only[List.map]at hF;rw[e0,e1,e5]at hF;cases m with
  |zero=>exact nomatch (show(none:Option R)=some r from k4')
  |succ m=>exact⟨m,rfl,fun K=>by rw[hF];kernel_rfl⟩
theorem ok24 (n:Nat) (hV:EnvOK G.P (E n (Hs n) 87)):Ent G.P 24 (sp24 n (Hs n)):=fun args objs K r h=>by
 have h0:=h;obtain⟨a1',a2',rfl,k1'⟩:=hdL_inv h;obtain⟨x0,rfl,k2'⟩:=lA_inv k1';obtain⟨a3',a4',rfl,k3'⟩:=hdL_inv k2';obtain⟨x1,rfl,k4'⟩:=lA_inv k3';obtain⟨rfl,k5'⟩:=endL_inv k4';obtain⟨rfl,k6'⟩:=endL_inv k5';exact ent_of (lv:=(lv24 n (Hs n))) (n:=n) (fn:=Tryz.f24) hE hM hV ⟨by kernel_rfl,by kernel_rfl,⟨b24,by kernel_rfl,by kernel_rfl⟩,Nat.le_of_ble_eq_true (by kernel_rfl),by kernel_rfl⟩ (fun body hb=>by
  obtain rfl:b24=body:=congrArg (fun o=>o.getD Code.skip) hb;exact LvC_of (l:= [(false,cl24_4)]) (by kernel_rfl) (all_cons (PcL (by kernel_rfl) (ol24_4 n hV)) (all_nil))) (fun K=>by kernel_rfl) h0
end Go.Proofs.YtcfoebkbahpnaaaGreat.Ab

/- From values without memory to typed rows and back: what is said of functions in the one way, said in the other. -/
set_option linter.unusedVariables false
set_option linter.unusedSimpArgs false
namespace Go.Proofs.YtcfoebkbahpnaaaGreat.Hd
open Go.RowKit Go.Proofs.YtcfoebkbahpnaaaGreatW.PrintWords Go.Proofs.YtcfoebkbahpnaaaGreatW.PrintLast
open Ab (DV AV Dat OwnA OwnS Pres Fresh AR ORep FunOK Ent EnvOK Enters RowsR slR Who Ro RW)

inductive DL (D : Nat → Nat → Prop) (w : World) : List DV → List Value → Prop
  | nil : DL D w [] []
  | cons {x : DV} {v : Value} {l : List DV} {m : List Value} (h : Dat D w x v) (k : DL D w l m) : DL D w (x :: l) (v :: m)
theorem DL.of {D:Nat→Nat→Prop} {w:World}: ∀ {cs:List DV} {vs:List Value},vs.length=cs.length→(∀ (i:Nat) x v,cs[i]? =some x→vs[i]? =some v→Dat D w x v)→DL D w cs vs
 | [],[],_,_=> .nil
 |x::cs,v::vs,hl,h=> .cons (h 0 x v rfl rfl) (DL.of (by simpa using hl) fun i x v=>h (i+1) x v)
 | [],_::_,hl,_=>by simp at hl
 |_::_,[],hl,_=>by simp at hl
theorem DL.len {D:Nat→Nat→Prop} {w:World} {cs:List DV} {vs:List Value} (h:DL D w cs vs):vs.length=cs.length:=by
 induction h with
 |nil=>rfl
 |cons _ _ ih=>simp[ih]
theorem DL.get {D:Nat→Nat→Prop} {w:World} {cs:List DV} {vs:List Value} (h:DL D w cs vs): ∀ (i:Nat) x v,cs[i]? =some x→vs[i]? =some v→Dat D w x v:=by
 induction h with
 |nil=>intro i x v hx;simp at hx
 |cons h _ ih=>
  intro i x v hx hv;cases i with
  |zero=>simp at hx hv;subst hx;subst hv;exact h
  |succ i=>exact ih i x v (by simpa using hx) (by simpa using hv)
theorem DL.app {D:Nat→Nat→Prop} {w:World} {a b:List DV} {vs:List Value} (h:DL D w (a++b) vs): ∃ u v,vs=u++v∧DL D w a u∧DL D w b v:=by
 induction a generalizing vs with
 |nil=>exact⟨[],vs,rfl,.nil,h⟩
 |cons x a ih=>
  cases h with
  |cons h k=>
   obtain⟨u,v,rfl,h1,h2⟩:=ih k;exact⟨_::u,v,rfl,.cons h h1,h2⟩
theorem dat_v {D:Nat→Nat→Prop} {w:World} {x v:Value} (h:Dat D w (.v x) v):v=x:=by cases h;rfl
theorem RowsR.len {α:Type} {r:List DV→α→Prop}: ∀ {rows:RW} {l:List α},RowsR r rows l→rows.length=l.length
 | [],[],_=>rfl
 |_::_,_::_,h=>by simp[RowsR.len h.2]
 | [],_::_,h=>h.elim
 |_::_,[],h=>h.elim
theorem RowsR.get {α:Type} {r:List DV→α→Prop}: ∀ {rows:RW} {l:List α},RowsR r rows l→ ∀ (i:Nat) x,l[i]? =some x→ ∃ a,rows[i]? =some a∧r a x
 | [],[],_,i,x,hx=>by simp at hx
 |a::_,y::_,h,0,x,hx=>by simp at hx;subst hx;exact⟨a,rfl,h.1⟩
 |_::_,_::_,h,i+1,x,hx=>RowsR.get h.2 i x (by simpa using hx)
 | [],_::_,h,_,_,_=>h.elim
 |_::_,[],h,_,_,_=>h.elim
theorem add_pl (b o k:Nat):(⟨b,o,none⟩:Addr).add k=⟨b,o+k,none⟩:=by
 unfold Addr.add;split
 ·rename_i h;subst h;rfl
 rfl
/-- A slice that reads as a list: its typed row. -/
theorem row_of {α:Type} {d:Kd α} {n:Nat} {r:List DV→α→Prop} {D:Nat→Nat→Prop} {w:World} (hs:d.sz=n) (hr: ∀ a x vs,r a x→DL D w a vs→d.K w x vs)
 {o:Bool} {rows:RW} {l:List α} {v:Value} (hR:RowsR r rows l) (hl:l.length<4611686018427387904) (hd:Dat D w (.sl o n rows) v): ∃ A c,v= .slice A l.length c∧l.length≤c∧d.C w A l.length l:=by
 have hlen:=RowsR.len hR;cases hd with
 |sl c hcap hrow hA hc hdat=>
  rename_i A cap;rw[hlen];refine⟨A,cap,rfl,by omega,rfl,by omega,fun hp=>?_⟩;obtain⟨hz,b,o',rfl⟩:=hA (by omega);refine⟨_,rfl,fun j p hj=>?_⟩;obtain⟨a,ha,hra⟩:=RowsR.get hR j p hj;have hjl:j<rows.length:=(List.getElem?_eq_some_iff.1 ha).1;have hal:=hrow a (List.mem_of_getElem? ha);refine⟨(List.range n).map fun i=>c (j*n+i),by simp[hs],hr a p _ hra (DL.of (by simp[hal]) fun i x v hx hv=>?_),fun i u hu=>?_⟩
  ·simp only[List.getElem?_map]at hv;have hin:i<n:=(by rw[← hal];exact(List.getElem?_eq_some_iff.1 hx).1);rw[List.getElem?_range hin]at hv;simp at hv;subst hv;exact hdat j i a x ha hx
  have hin:i<n:=by
   have:=(List.getElem?_eq_some_iff.1 hu).1;simpa using this
  simp only[List.getElem?_map,List.getElem?_range hin,Option.map_some,Option.some.injEq]at hu;subst hu;rw[hs,add_pl];refine(hc b o' (j*n+i) rfl ?_).2.1;have:j*n+n≤rows.length*n:=(by rw[← Nat.succ_mul];exact Nat.mul_le_mul_right _ hjl);omega
theorem slR_of {α:Type} {d:Kd α} {n:Nat} {r:List DV→α→Prop} {D:Nat→Nat→Prop} {w:World} (hs:d.sz=n) (hr: ∀ a x vs,r a x→DL D w a vs→d.K w x vs)
 {c:DV} {l:List α} {v:Value} (hR:slR n r c l) (hl:l.length<4611686018427387904) (hd:Dat D w c v): ∃ A cp,v= .slice A l.length cp∧l.length≤cp∧d.C w A l.length l:=by
 rcases hR with ⟨rfl,rfl⟩|⟨rows,rfl,hR⟩
 ·rw[dat_v hd];exact⟨none,0,rfl,Nat.le_refl _,rfl,by simp,fun h=>by simp at h⟩
 exact row_of hs hr hR hl hd
/-- A typed row: a slice that reads as it. -/
theorem row_mk {α:Type} {d:Kd α} {n:Nat} {e:α→List DV} {w:World} (hs:d.sz=n) (hn:0<n) (he: ∀ x,(e x).length=n) {A:Option Addr} {l:List α} {c:Nat} (hr: ∀ x ∈ l,∀ vs,d.K w x vs→DL (fun _ _=>True) w (e x) vs)
 (hc:l.length≤c) (h:d.C w A l.length l):Dat (fun _ _=>True) w (.sl false n (l.map e)) (.slice A l.length c):=by
 have hcell:0<l.length→ ∃ b o,A=some ⟨b,o,none⟩∧ ∀ j p,l[j]? =some p→ ∃ vs,vs.length=n∧d.K w p vs∧ ∀ (i:Nat) u,vs[i]? =some u→w.cell? ⟨b,o+(j*n+i),none⟩=some u:=by
  intro hp;obtain⟨ad,rfl,h3⟩:=h.2.2 hp;obtain⟨c0,hl0,hK0,hc0⟩:=h3 0 _ (List.getElem?_eq_getElem hp);have h0:=hc0 0 _ (List.getElem?_eq_getElem (show 0<c0.length by omega));have:ad.spot=none:=by
   unfold World.cell? at h0;have e0:ad.add (0*d.sz+0)=ad:=(by rw[Nat.zero_mul];rfl);rw[e0]at h0;cases hsp:ad.spot with
   |none=>rfl
   |some x=>
    rw[hsp]at h0;split at h0<;>simp at h0
  obtain⟨b,o,sp⟩:=ad;simp only at this;subst this;refine⟨b,o,rfl,fun j p hj=>?_⟩;obtain⟨vs,a1,a2,a3⟩:=h3 j p hj;refine⟨vs,a1.trans hs,a2,fun i u hu=>?_⟩;have:=a3 i u hu;rwa[hs,add_pl]at this
 have hm:(l.map e).length=l.length:=List.length_map ..;rw[← hm];refine .sl (fun q=>match A with|some ⟨b,o,_⟩=>(w.cell? ⟨b,o+q,none⟩).getD undef|none=>undef) (by rw[hm];exact hc) (fun r hr=>?_) (fun hp=>?_) (fun b o q hA hq=>?_) (fun i j r x hi hj=>?_)
 ·obtain⟨x,_,rfl⟩:=List.mem_map.1 hr;exact he x
 ·rw[hm]at hp;obtain⟨b,o,h1,_⟩:=hcell hp;exact⟨hn,b,o,h1⟩
 ·subst hA;rw[hm]at hq;have hp:0<l.length:=by rcases Nat.eq_zero_or_pos l.length with h0|h0;(rw[h0]at hq;simp at hq);exact h0
  obtain⟨b',o',h1,h2⟩:=hcell hp;cases h1
  have hjl:q / n<l.length:=Nat.div_lt_of_lt_mul (by rw[Nat.mul_comm];exact hq);obtain⟨vs,a1,a2,a3⟩:=h2 (q / n) _ (List.getElem?_eq_getElem hjl);have hi:q % n<vs.length:=(by rw[a1];exact Nat.mod_lt _ hn);have h4:=a3 (q % n) _ (List.getElem?_eq_getElem hi);rw[show q / n*n+q % n=q from Nat.div_add_mod' q n]at h4;simp only[h4,Option.getD_some];exact⟨trivial,trivial,d.K_one a2 _ (List.getElem_mem hi)⟩
 rw[List.getElem?_map]at hi;cases hx:l[i]? with
 |none=>rw[hx]at hi;simp at hi
 |some p=>
  rw[hx]at hi;simp at hi;subst hi;have hil:=(List.getElem?_eq_some_iff.1 hx).1;obtain⟨b,o,rfl,h2⟩:=hcell (by omega);obtain⟨vs,a1,a2,a3⟩:=h2 i p hx;have hdl:=hr p (List.mem_of_getElem? hx) vs a2;have hjn:j<vs.length:=(by rw[a1,← he p];exact(List.getElem?_eq_some_iff.1 hj).1);have h4:=a3 j _ (List.getElem?_eq_getElem hjn);simp only[h4,Option.getD_some];exact hdl.get j x _ hj (List.getElem?_eq_getElem hjn)
/-! steps -/
theorem pres_of_below {who:Who} {w w':World} (hf:Fresh who w) (h:Below w.heap.size w w'):Pres who w who w'∧Fresh who w':=
 ⟨⟨h.size,h.os,h.tape,h.output,fun b hb=>by rw[h.block b hb];exact Ab.BP.refl _ _,fun _ _ _ e=>e,fun _ _ _=>Iff.rfl,fun b o hb=>by rw[hf b o hb];simp⟩,fun b o hb=>hf b o (Nat.le_trans h.size hb)⟩
theorem below_of_pres {who':Who} {w w':World} (h:Pres (fun _ _=>none) w who' w'):Below w.heap.size w w':=
 ⟨h.os,h.tape,h.output,h.size,fun k hk=>by
  have hb:=h.blk k hk;unfold Ab.BP at hb;split at hb
  ·rename_i c ty f hq;obtain⟨c',h1,h2,h3⟩:=hb;rw[h1,hq];have:c'=c:=Array.ext (by omega) fun i h4 h5=>by
    have:=h3 i (.inl rfl);rw[Array.getElem?_eq_getElem h4,Array.getElem?_eq_getElem h5]at this;exact Option.some.inj this
   rw[this]
  exact hb⟩
/-- A call of a function of which something is said. -/
theorem calls_of {P:Program} {env:Ab.Env} (hV:EnvOK P env) {f:FuncId} {xs:List DV} {q:Ab.R} (h:env f (xs.map .d) [] some=some q) (hx: ∀ x ∈ xs,x.dis=x) {vs:List Value} {w:World} (hv:DL (fun _ _=>True) w xs vs):
 Calls P f vs.toArray w fun e w'=> ∃ v D,e= .returned v∧Below w.heap.size w w'∧Dat D w' q.1 v:=by
 obtain⟨q',h1,h2,h3⟩:=hV f _ _ _ _ h;have:q'=q:=(by rw[h1]at h;exact Option.some.inj h);subst this;refine(h3 (fun _ _=>none) (fun _=>none) w vs (fun _ _ _=>rfl) (by rw[hv.len];simp) (fun i x v hx' hv'=>?_) (fun i k off hi=>?_) (fun k cs hk=>by simp at hk)).mono ?_
 ·rw[List.getElem?_map]at hx';cases hy:xs[i]? with
  |none=>rw[hy]at hx';simp at hx'
  |some y=>
   rw[hy]at hx';simp at hx';subst hx';have hd:=hv.get i y v hy hv';refine⟨hd.imp fun b o _ _=>⟨rfl,rfl⟩,?_⟩;have:=Ab.OwnA.dis (p:=fun j b o=>(none:Option Ab.Pl)=some (.slot i j)) (w:=w) y v;rw[hx y (List.mem_of_getElem? hy)]at this;exact this
 ·rw[List.getElem?_map]at hi;cases hy:xs[i]?<;>rw[hy]at hi<;>simp at hi
 rintro e w' ⟨v,who',rfl,_,hp,ha,_⟩;exact⟨v,_,rfl,below_of_pres hp,ha.1⟩
/-- A value that is handed back. -/
def Ret (x : DV) (v : Value) : Prop := (∀ D w, Dat D w x v) ∧ ∀ (p : Nat → Nat → Nat → Prop) (w : World), OwnA p w x v
theorem Ret.v {x:Value} (h:x.oneCell'=true):Ret (.v x) x:=⟨fun _ _=> .v h,fun _ _=>trivial⟩
theorem Ret.tu2 {x y:Value} (h:x.oneCell'=true) (k:y.oneCell'=true):Ret (.tu [.v x,.v y]) (.tuple #[x,y]):=
 ⟨fun _ _=> .tu rfl fun i a b ha hb=>by
  match i with
  |0=>simp at ha hb;subst ha;subst hb;exact .v h
  |1=>simp at ha hb;subst ha;subst hb;exact .v k
  |i+2=>simp at ha,fun p w vs hv j a u ha hu=>by
  match j with
  |0=>simp at ha;subst ha;exact trivial
  |1=>simp at ha;subst ha;exact trivial
  |j+2=>simp at ha⟩
/-- What a function by hand comes to is so. -/
theorem funOK_of {P:Program} {f:FuncId} {xs:List DV} {x:DV} {v:Value} (hr:Ret x v)
 (h: ∀ (D:Nat→Nat→Prop) (w:World) (vs:List Value),DL D w xs vs→Calls P f vs.toArray w fun e w'=>e= .returned v∧Below w.heap.size w w'):FunOK P f (xs.map .d) [] (x,[]):=by
 intro who μ w vals hf hl ha _ _;refine(h (Ro who) w vals (DL.of (by simpa using hl) fun i y v hy hv=>(ha i (.d y) v (by rw[List.getElem?_map,hy];rfl) hv).1)).mono ?_;rintro e w' ⟨rfl,hb⟩;obtain⟨h1,h2⟩:=pres_of_below hf hb;exact⟨v,who,rfl,h2,h1,⟨hr.1 _ _,hr.2 _ _⟩,fun k cs hk=>by simp at hk⟩
theorem DL.one {D:Nat→Nat→Prop} {w:World} {x:DV} {vs:List Value} (h:DL D w [x] vs): ∃ v,vs= [v]∧Dat D w x v:=by
 cases h with
 |cons h k=>cases k;exact⟨_,rfl,h⟩
theorem DL.two {D:Nat→Nat→Prop} {w:World} {x y:DV} {vs:List Value} (h:DL D w [x,y] vs): ∃ u v,vs= [u,v]∧Dat D w x u∧Dat D w y v:=by
 cases h with
 |cons h k=>obtain⟨v,rfl,k'⟩:=k.one;exact⟨_,v,rfl,h,k'⟩
end Go.Proofs.YtcfoebkbahpnaaaGreat.Hd
