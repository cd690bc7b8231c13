import Derived.Test.YtcfoebkbahpnaaaGreatZF9
import Derived.Test.YtcfoebkbahpnaaaGreatProg
import Derived.Test.YtcfoebkbahpnaaaGreatZWWords
import Derived.Test.YtcfoebkbahpnaaaGreatZAd
import Derived.Test.YtcfoebkbahpnaaaGreatZLf
import Derived.Maps.RangeWalk
import Derived.Maps.OwnIn
import Derived.Sort.MapsRangeIn
import Derived.StringKeys
set_option linter.unusedVariables false
namespace Go.Proofs.YtcfoebkbahpnaaaGreat.Ab
open Go
theorem ok58 (n:Nat) (hV:EnvOK G.P (E n (Hs n) 28)):Ent G.P 58 (sp58 n (Hs n)):=fun args objs K r h=>by
 have h0:=h;obtain⟨a1',a2',rfl,k1'⟩:=hdL_inv h;obtain⟨c3',rfl,k2'⟩:=agA_inv k1';obtain⟨c4',c5',rfl,k3'⟩:=hdL_inv k2';obtain⟨x0,e',k4'⟩:=iA_inv k3';cases e';obtain⟨c6',c7',rfl,k5'⟩:=hdL_inv k4';obtain⟨x1,e',k6'⟩:=sA_inv k5';cases e';obtain⟨c8',c9',rfl,k7'⟩:=hdL_inv k6';obtain⟨x2,e',k8'⟩:=sA_inv k7';cases e';obtain⟨c10',c11',rfl,k9'⟩:=hdL_inv k8';obtain⟨x3,e',k10'⟩:=sA_inv k9';cases e';obtain⟨rfl,k11'⟩:=endL_inv k10';obtain⟨rfl,k12'⟩:=endL_inv k11';obtain⟨rfl,k13'⟩:=endL_inv k12'
 exact ent_of (lv:=noLv) (n:=n) (fn:=Tryz.f58) hE hM hV ⟨by kernel_rfl,by kernel_rfl,⟨b58,by kernel_rfl,by kernel_rfl⟩,Nat.le_of_ble_eq_true (by kernel_rfl),by kernel_rfl⟩ (fun body hb=>by
  obtain rfl:b58=body:=congrArg (fun o=>o.getD Code.skip) hb;exact LvC_of (l:= []) (by kernel_rfl) (all_nil)) (fun K=>by kernel_rfl) h0
theorem ol33_3 (n:Nat) (hV:EnvOK G.P (E n (Hs n) 30)):LvOf G (E n (Hs n) 30) (G.fc 33) 0 n cl33_3 (sl33_3 n (Hs n)):=
 LvOf_r (lv:=(lv33 n (Hs n))) (L:= [3,6,7,8]) (bx:= []) hV (LvC_of (l:= []) (by kernel_rfl) (all_nil)) (by kernel_rfl) (by kernel_rfl) fun m F O K r hF h=>by
  obtain⟨x0,e3,k1'⟩:=lA_inv h;obtain⟨x1,e6,k2'⟩:=lA_inv k1';obtain⟨x2,e7,k3'⟩:=iA_inv k2';obtain⟨x3,e8,k4'⟩:=iA_inv k3';obtain⟨rfl,k5'⟩:=endL_inv k4';simp only[List.map]at hF;rw[e3,e6,e7,e8]at hF;cases m with
  |zero=>exact nomatch (show(none:Option R)=some r from k5')
  |succ m=>exact⟨m,rfl,fun K=>by rw[hF];kernel_rfl⟩
theorem ok33 (n:Nat) (hV:EnvOK G.P (E n (Hs n) 30)):Ent G.P 33 (sp33 n (Hs n)):=fun args objs K r h=>by
 have h0:=h;obtain⟨a1',a2',rfl,k1'⟩:=hdL_inv h;obtain⟨x0,rfl,k2'⟩:=lA_inv k1';obtain⟨rfl,k3'⟩:=endL_inv k2';obtain⟨rfl,k4'⟩:=endL_inv k3';exact ent_of (lv:=(lv33 n (Hs n))) (n:=n) (fn:=Tryz.f33) hE hM hV ⟨by kernel_rfl,by kernel_rfl,⟨b33,by kernel_rfl,by kernel_rfl⟩,Nat.le_of_ble_eq_true (by kernel_rfl),by kernel_rfl⟩ (fun body hb=>by
  obtain rfl:b33=body:=congrArg (fun o=>o.getD Code.skip) hb;exact LvC_of (l:= [(false,cl33_3)]) (by kernel_rfl) (all_cons (PcL (by kernel_rfl) (ol33_3 n hV)) (all_nil))) (fun K=>by kernel_rfl) h0
theorem ol31_3 (n:Nat) (hV:EnvOK G.P (E n (Hs n) 31)):LvOf G (E n (Hs n) 31) (G.fc 31) 0 n cl31_3 (sl31_3 n (Hs n)):=
 LvOf_r (lv:=(lv31 n (Hs n))) (L:= [3,6,7,8]) (bx:= [0]) hV (LvC_of (l:= []) (by kernel_rfl) (all_nil)) (by kernel_rfl) (by kernel_rfl) fun m F O K r hF h=>by
  obtain⟨x0,e3,k1'⟩:=sA_inv h;obtain⟨x1,e6,k2'⟩:=lA_inv k1';obtain⟨x2,e7,k3'⟩:=iA_inv k2';obtain⟨x3,e8,k4'⟩:=iA_inv k3';obtain⟨o1',o2',rfl,k5'⟩:=hdL_inv k4';obtain⟨rfl,k6'⟩:=noC_inv k5';obtain⟨rfl,k7'⟩:=endL_inv k6';simp only[List.map]at hF;rw[e3,e6,e7,e8]at hF;cases m with
  |zero=>exact nomatch (show(none:Option R)=some r from k7')
  |succ m=>exact⟨m,rfl,fun K=>by rw[hF];kernel_rfl⟩
theorem ok31 (n:Nat) (hV:EnvOK G.P (E n (Hs n) 31)):Ent G.P 31 (sp31 n (Hs n)):=fun args objs K r h=>by
 have h0:=h;obtain⟨a1',a2',rfl,k1'⟩:=hdL_inv h;obtain⟨x0,rfl,k2'⟩:=lA_inv k1';obtain⟨rfl,k3'⟩:=endL_inv k2';obtain⟨rfl,k4'⟩:=endL_inv k3';exact ent_of (lv:=(lv31 n (Hs n))) (n:=n) (fn:=Tryz.f31) hE hM hV ⟨by kernel_rfl,by kernel_rfl,⟨b31,by kernel_rfl,by kernel_rfl⟩,Nat.le_of_ble_eq_true (by kernel_rfl),by kernel_rfl⟩ (fun body hb=>by
  obtain rfl:b31=body:=congrArg (fun o=>o.getD Code.skip) hb;exact LvC_of (l:= [(false,cl31_3)]) (by kernel_rfl) (all_cons (PcL (by kernel_rfl) (ol31_3 n hV)) (all_nil))) (fun K=>by kernel_rfl) h0
theorem ol32_3 (n:Nat) (hV:EnvOK G.P (E n (Hs n) 32)):LvOf G (E n (Hs n) 32) (G.fc 32) 0 n cl32_3 (sl32_3 n (Hs n)):=
 LvOf_r (lv:=(lv32 n (Hs n))) (L:= [1,3,11,12,13]) (bx:= []) hV (LvC_of (l:= []) (by kernel_rfl) (all_nil)) (by kernel_rfl) (by kernel_rfl) fun m F O K r hF h=>by
  obtain⟨e1,k1'⟩:=pA_inv h;obtain⟨x0,e3,k2'⟩:=sA_inv k1';obtain⟨x1,e11,k3'⟩:=lA_inv k2';obtain⟨x2,e12,k4'⟩:=iA_inv k3';obtain⟨x3,e13,k5'⟩:=iA_inv k4';obtain⟨o1',o2',rfl,k6'⟩:=hdL_inv k5';obtain⟨c3',rfl,k7'⟩:=soC_inv k6';obtain⟨c4',c5',rfl,k8'⟩:=hdL_inv k7';obtain⟨x4,e',k9'⟩:=lA_inv k8';cases e';obtain⟨c6',c7',rfl,k10'⟩:=hdL_inv k9';obtain⟨x5,e',k11'⟩:=lA_inv k10';cases e';obtain⟨rfl,k12'⟩:=endL_inv k11';obtain⟨o8',o9',rfl,k13'⟩:=hdL_inv k12';obtain⟨rfl,k14'⟩:=noC_inv k13';obtain⟨rfl,k15'⟩:=endL_inv k14';simp only[List.map]at hF;rw[e1,e3,e11,e12,e13]at hF;cases m with
  |zero=>exact nomatch (show(none:Option R)=some r from k15')
  |succ m=>exact⟨m,rfl,fun K=>by rw[hF];kernel_rfl⟩
theorem ol32_13 (n:Nat) (hV:EnvOK G.P (E n (Hs n) 32)):LvOf G (E n (Hs n) 32) (G.fc 32) 0 n cl32_13 (sl32_13 n (Hs n)):=
 LvOf_r (lv:=(lv32 n (Hs n))) (L:= [3,27,28,29,36,37,38]) (bx:= [1]) hV (LvC_of (l:= []) (by kernel_rfl) (all_nil)) (by kernel_rfl) (by kernel_rfl) fun m F O K r hF h=>by
  obtain⟨x0,e3,k1'⟩:=sA_inv h;obtain⟨x1,e27,k2'⟩:=lA_inv k1';obtain⟨x2,e28,k3'⟩:=iA_inv k2';obtain⟨x3,e29,k4'⟩:=iA_inv k3';obtain⟨x4,e36,k5'⟩:=lA_inv k4';obtain⟨x5,e37,k6'⟩:=iA_inv k5';obtain⟨x6,e38,k7'⟩:=iA_inv k6';obtain⟨o1',o2',rfl,k8'⟩:=hdL_inv k7';obtain⟨rfl,k9'⟩:=noC_inv k8';obtain⟨o3',o4',rfl,k10'⟩:=hdL_inv k9';obtain⟨rfl,k11'⟩:=noC_inv k10';obtain⟨rfl,k12'⟩:=endL_inv k11';simp only[List.map]at hF;rw[e3,e27,e28,e29,e36,e37,e38]at hF;cases m with
  |zero=>exact nomatch (show(none:Option R)=some r from k12')
  |succ m=>exact⟨m,rfl,fun K=>by rw[hF];kernel_rfl⟩
theorem ol32_9 (n:Nat) (hV:EnvOK G.P (E n (Hs n) 32)):LvOf G (E n (Hs n) 32) (G.fc 32) 0 n cl32_9 (sl32_9 n (Hs n)):=
 LvOf_r (lv:=(lv32 n (Hs n))) (L:= [3,27,28,29]) (bx:= [1]) hV (LvC_of (l:= [(false,cl32_13)]) (by kernel_rfl) (all_cons (PcL (by kernel_rfl) (ol32_13 n hV)) (all_nil))) (by kernel_rfl) (by kernel_rfl) fun m F O K r hF h=>by
  obtain⟨x0,e3,k1'⟩:=sA_inv h;obtain⟨x1,e27,k2'⟩:=lA_inv k1';obtain⟨x2,e28,k3'⟩:=iA_inv k2';obtain⟨x3,e29,k4'⟩:=iA_inv k3';obtain⟨o1',o2',rfl,k5'⟩:=hdL_inv k4';obtain⟨rfl,k6'⟩:=noC_inv k5';obtain⟨o3',o4',rfl,k7'⟩:=hdL_inv k6';obtain⟨rfl,k8'⟩:=noC_inv k7';obtain⟨rfl,k9'⟩:=endL_inv k8';simp only[List.map]at hF;rw[e3,e27,e28,e29]at hF;cases m with
  |zero=>exact nomatch (show(none:Option R)=some r from k9')
  |succ m=>exact⟨m,rfl,fun K=>by rw[hF];kernel_rfl⟩
theorem ok32 (n:Nat) (hV:EnvOK G.P (E n (Hs n) 32)):Ent G.P 32 (sp32 n (Hs n)):=fun args objs K r h=>by
 have h0:=h;obtain⟨a1',a2',rfl,k1'⟩:=hdL_inv h;obtain⟨c3',rfl,k2'⟩:=agA_inv k1';obtain⟨c4',c5',rfl,k3'⟩:=hdL_inv k2';obtain⟨x0,e',k4'⟩:=lA_inv k3';cases e';obtain⟨c6',c7',rfl,k5'⟩:=hdL_inv k4';obtain⟨x1,e',k6'⟩:=lA_inv k5';cases e';obtain⟨rfl,k7'⟩:=endL_inv k6';obtain⟨rfl,k8'⟩:=endL_inv k7';obtain⟨rfl,k9'⟩:=endL_inv k8'
 exact ent_of (lv:=(lv32 n (Hs n))) (n:=n) (fn:=Tryz.f32) hE hM hV ⟨by kernel_rfl,by kernel_rfl,⟨b32,by kernel_rfl,by kernel_rfl⟩,Nat.le_of_ble_eq_true (by kernel_rfl),by kernel_rfl⟩ (fun body hb=>by
  obtain rfl:b32=body:=congrArg (fun o=>o.getD Code.skip) hb;exact LvC_of (l:= [(false,cl32_3),(false,cl32_9)]) (by kernel_rfl) (all_cons (PcL (by kernel_rfl) (ol32_3 n hV)) (all_cons (PcL (by kernel_rfl) (ol32_9 n hV)) (all_nil)))) (fun K=>by kernel_rfl) h0
theorem ok17 (n:Nat) (hV:EnvOK G.P (E n (Hs n) 33)):Ent G.P 17 (sp17 n (Hs n)):=fun args objs K r h=>by
 have h0:=h;obtain⟨a1',a2',rfl,k1'⟩:=hdL_inv h;obtain⟨c3',rfl,k2'⟩:=agA_inv k1';obtain⟨c4',c5',rfl,k3'⟩:=hdL_inv k2';obtain⟨x0,e',k4'⟩:=iA_inv k3';cases e';obtain⟨c6',c7',rfl,k5'⟩:=hdL_inv k4';obtain⟨x1,e',k6'⟩:=lA_inv k5';cases e';obtain⟨c8',c9',rfl,k7'⟩:=hdL_inv k6';obtain⟨x2,e',k8'⟩:=lA_inv k7';cases e';obtain⟨c10',c11',rfl,k9'⟩:=hdL_inv k8';obtain⟨x3,e',k10'⟩:=lA_inv k9';cases e';obtain⟨c12',c13',rfl,k11'⟩:=hdL_inv k10';obtain⟨x4,e',k12'⟩:=lA_inv k11';cases e';obtain⟨c14',c15',rfl,k13'⟩:=hdL_inv k12';obtain⟨x5,e',k14'⟩:=sA_inv k13';cases e';obtain⟨c16',c17',rfl,k15'⟩:=hdL_inv k14';obtain⟨x6,e',k16'⟩:=bA_inv k15';cases e';obtain⟨rfl,k17'⟩:=endL_inv k16';obtain⟨a18',a19',rfl,k18'⟩:=hdL_inv k17';obtain⟨x7,rfl,k19'⟩:=lA_inv k18';obtain⟨rfl,k20'⟩:=endL_inv k19';obtain⟨rfl,k21'⟩:=endL_inv k20'
 exact ent_of (lv:=noLv) (n:=n) (fn:=Tryz.f17) hE hM hV ⟨by kernel_rfl,by kernel_rfl,⟨b17,by kernel_rfl,by kernel_rfl⟩,Nat.le_of_ble_eq_true (by kernel_rfl),by kernel_rfl⟩ (fun body hb=>by
  obtain rfl:b17=body:=congrArg (fun o=>o.getD Code.skip) hb;exact LvC_of (l:= []) (by kernel_rfl) (all_nil)) (fun K=>by kernel_rfl) h0
theorem ok4 (n:Nat) (hV:EnvOK G.P (E n (Hs n) 35)):Ent G.P 4 (sp4 n (Hs n)):=fun args objs K r h=>by
 have h0:=h;obtain⟨a1',a2',rfl,k1'⟩:=hdL_inv h;obtain⟨x0,rfl,k2'⟩:=lA_inv k1';obtain⟨rfl,k3'⟩:=endL_inv k2';obtain⟨rfl,k4'⟩:=endL_inv k3';exact ent_of (lv:=noLv) (n:=n) (fn:=Tryz.f4) hE hM hV ⟨by kernel_rfl,by kernel_rfl,⟨b4,by kernel_rfl,by kernel_rfl⟩,Nat.le_of_ble_eq_true (by kernel_rfl),by kernel_rfl⟩ (fun body hb=>by
  obtain rfl:b4=body:=congrArg (fun o=>o.getD Code.skip) hb;exact LvC_of (l:= []) (by kernel_rfl) (all_nil)) (fun K=>by kernel_rfl) h0
theorem ok5 (n:Nat) (hV:EnvOK G.P (E n (Hs n) 36)):Ent G.P 5 (sp5 n (Hs n)):=fun args objs K r h=>by
 have h0:=h;obtain⟨rfl,k1'⟩:=endL_inv h;obtain⟨rfl,k2'⟩:=endL_inv k1';exact ent_of (lv:=noLv) (n:=n) (fn:=Tryz.f5) hE hM hV ⟨by kernel_rfl,by kernel_rfl,⟨b5,by kernel_rfl,by kernel_rfl⟩,Nat.le_of_ble_eq_true (by kernel_rfl),by kernel_rfl⟩ (fun body hb=>by
  obtain rfl:b5=body:=congrArg (fun o=>o.getD Code.skip) hb;exact LvC_of (l:= []) (by kernel_rfl) (all_nil)) (fun K=>by kernel_rfl) h0
theorem ok18 (n:Nat) (hV:EnvOK G.P (E n (Hs n) 37)):Ent G.P 18 (sp18 n (Hs n)):=fun args objs K r h=>by
 have h0:=h;obtain⟨a1',a2',rfl,k1'⟩:=hdL_inv h;obtain⟨x0,rfl,k2'⟩:=uA_inv k1';obtain⟨rfl,k3'⟩:=endL_inv k2';obtain⟨rfl,k4'⟩:=endL_inv k3';exact ent_of (lv:=noLv) (n:=n) (fn:=Tryz.f18) hE hM hV ⟨by kernel_rfl,by kernel_rfl,⟨b18,by kernel_rfl,by kernel_rfl⟩,Nat.le_of_ble_eq_true (by kernel_rfl),by kernel_rfl⟩ (fun body hb=>by
  obtain rfl:b18=body:=congrArg (fun o=>o.getD Code.skip) hb;exact LvC_of (l:= []) (by kernel_rfl) (all_nil)) (fun K=>by kernel_rfl) h0
theorem ok34 (n:Nat) (hV:EnvOK G.P (E n (Hs n) 38)):Ent G.P 34 (sp34 n (Hs n)):=fun args objs K r h=>by
 have h0:=h;obtain⟨a1',a2',rfl,k1'⟩:=hdL_inv h;obtain⟨x0,rfl,k2'⟩:=uA_inv k1';obtain⟨a3',a4',rfl,k3'⟩:=hdL_inv k2';obtain⟨x1,rfl,k4'⟩:=uA_inv k3';obtain⟨a5',a6',rfl,k5'⟩:=hdL_inv k4';obtain⟨x2,rfl,k6'⟩:=uA_inv k5';obtain⟨rfl,k7'⟩:=endL_inv k6';obtain⟨rfl,k8'⟩:=endL_inv k7';exact ent_of (lv:=noLv) (n:=n) (fn:=Tryz.f34) hE hM hV ⟨by kernel_rfl,by kernel_rfl,⟨b34,by kernel_rfl,by kernel_rfl⟩,Nat.le_of_ble_eq_true (by kernel_rfl),by kernel_rfl⟩ (fun body hb=>by
  obtain rfl:b34=body:=congrArg (fun o=>o.getD Code.skip) hb;exact LvC_of (l:= []) (by kernel_rfl) (all_nil)) (fun K=>by kernel_rfl) h0
theorem ok19 (n:Nat) (hV:EnvOK G.P (E n (Hs n) 39)):Ent G.P 19 (sp19 n (Hs n)):=fun args objs K r h=>by
 have h0:=h;obtain⟨a1',a2',rfl,k1'⟩:=hdL_inv h;obtain⟨x0,rfl,k2'⟩:=uA_inv k1';obtain⟨rfl,k3'⟩:=endL_inv k2';obtain⟨rfl,k4'⟩:=endL_inv k3';exact ent_of (lv:=noLv) (n:=n) (fn:=Tryz.f19) hE hM hV ⟨by kernel_rfl,by kernel_rfl,⟨b19,by kernel_rfl,by kernel_rfl⟩,Nat.le_of_ble_eq_true (by kernel_rfl),by kernel_rfl⟩ (fun body hb=>by
  obtain rfl:b19=body:=congrArg (fun o=>o.getD Code.skip) hb;exact LvC_of (l:= []) (by kernel_rfl) (all_nil)) (fun K=>by kernel_rfl) h0
end Go.Proofs.YtcfoebkbahpnaaaGreat.Ab

/- Maps with string keys and bools in them: which keys they have, and the walk's arms for them. -/
namespace Go.Proofs.YtcfoebkbahpnaaaGreat.Hd
open Go.RowKit Go.ChangeMaps Go.WideShapes Go.WideMaps Go.Proofs.YtcfoebkbahpnaaaGreatW.PrintWords Go.Proofs.YtcfoebkbahpnaaaGreatW.PrintLast
/-- block b is a map of at most n entries; its keys are those of S -/
def MapS (w : World) (b n : Nat) (S : List ByteArray) : Prop := ∃ D : DataW Unit, w.ownsMap Tryz.prog 9 (plainElem Tryz.prog 4) b n D ∧ ∀ s : ByteArray, Maps.has D (.string s.data.toList) = true ↔ s ∈ S
theorem mpK:Maps.Keyed Tryz.prog 9:=Maps.string_keyed Tryz.underlying9
theorem MapS.made (w:World):MapS (w.alloc (.map #[] 0)) w.heap.size 0 []:=⟨.map [],World.ownsMap_made w _ _ _,fun s=>by simp[Maps.has]⟩
theorem MapS.lt {w:World} {b n:Nat} {S:List ByteArray} (h:MapS w b n S):b<w.heap.size:=h.choose_spec.1.lt
theorem MapS.mono {w:World} {b n m:Nat} {S:List ByteArray} (h:MapS w b n S) (hn:n≤m):MapS w b m S:=by
 obtain⟨D,h1,h2⟩:=h;exact⟨D,h1.mono hn,h2⟩
theorem MapS.like {w:World} {b n:Nat} {S T:List ByteArray} (h:MapS w b n S) (e: ∀ s,s ∈ S ↔ s ∈ T):MapS w b n T:=by
 obtain⟨D,h1,h2⟩:=h;exact⟨D,h1,fun s=>(h2 s).trans (e s)⟩
theorem MapS.grown {w w1:World} {row:Option Nat} {b n:Nat} {S:List ByteArray} (h:MapS w b n S) (hg:w.grownBy w1 row) (hne:some b≠row):MapS w1 b n S:=by
 obtain⟨D,h1,h2⟩:=h;exact⟨D,h1.kept hg hne,h2⟩
theorem MapS.below {w w1:World} {b n:Nat} {S:List ByteArray} (h:MapS w b n S) (hb:Below w.heap.size w w1):MapS w1 b n S:=h.grown (grown_of_below hb none) (by simp)
theorem MapS.set {w:World} {b n:Nat} {S:List ByteArray} (h:MapS w b n S) {a:Addr} (ha:b≠a.block) (u:Value):MapS (w.setCell a u) b n S:=by
 obtain⟨D,h1,h2⟩:=h;exact⟨D,h1.setCell ha u,h2⟩
theorem ba_of_list {a b:ByteArray} (h:a.data.toList=b.data.toList):a=b:=by
 cases a;cases b
 simp only[ByteArray.mk.injEq]at h ⊢;exact Array.toList_inj.1 h
/-- is a text among texts? -/
def hasB (S : List ByteArray) (s : ByteArray) : Bool := S.any fun x => x.data.toList == s.data.toList
theorem hasB_iff {S:List ByteArray} {s:ByteArray}:hasB S s=true ↔ s ∈ S:=by
 unfold hasB;rw[List.any_eq_true];constructor
 ·rintro⟨x,hx,he⟩;rwa[← ba_of_list (beq_iff_eq.1 he)]
 exact fun h=>⟨s,h,beq_self_eq_true _⟩
/-- texts without one -/
def butB (L : List ByteArray) (s : ByteArray) : List ByteArray := L.filter fun x => !(x.data.toList == s.data.toList)
theorem butB_iff {L:List ByteArray} {s t:ByteArray}:t ∈ butB L s ↔ t ∈ L∧t≠s:=by
 unfold butB;rw[List.mem_filter,Bool.not_eq_true',beq_eq_false_iff_ne];exact and_congr_right fun _=>not_congr ⟨ba_of_list,fun h=>by rw[h]⟩
theorem mp_put {D:DataW Unit} {S:List ByteArray} (hD:Maps.IsMap D) (h2: ∀ s:ByteArray,Maps.has D (.string s.data.toList)=true ↔ s ∈ S) (s:ByteArray) (hs:s.size≤maxLen) (d:DataW Unit) (t:ByteArray):
 Maps.has (D.put (.string s.data.toList) d) (.string t.data.toList)=true ↔ t ∈ s::S:=by
 by_cases e:t=s
 ·subst e;simp[Maps.has_put_same hD (mpK.key (keyOf_string_mk Tryz.underlying9 hs))]
 rw[Maps.has_put_other (fun h=>e (ba_of_list (by injection h)))];simp[h2,e]
section
variable {ops:Array Oper} {rest:List Oper} {o:Oper} {a:Act} {Q:Exit→Act→World→Prop}
theorem MapS.wp_put (w:World) (hg:o.guard=none) (m x v:Operand) (t:TypeId) (hop:o.op=Op.mapUpdate t m x v) (ht:Tryz.prog.underlying t=some (.map 9 4)) (b n:Nat) (S:List ByteArray)
 (hm:a.eval m= .map (some b)) (h:MapS w b n S) (hn:n<maxLen) (s:ByteArray) (bv:Bool) (hs:s.size≤maxLen) (hx:a.eval x= .string s) (hv:a.eval v= .bool bv)
 (hK: ∀ w',MapS w' b (n+1) (s::S)→w.grownBy w' (some b)→wpList Tryz.prog ops Q rest (a.put o.dst undef) w'):wpList Tryz.prog ops Q (o::rest) a w:=by
 obtain⟨D,h1,h2⟩:=h;exact wpList_mapUpdate_own w hg m x v t hop 9 4 mpK ht _ b n D hm h1 hn _ _ _ hx hv (keyOf_string_mk Tryz.underlying9 hs) _ [] (plainElem_bool Tryz.underlying4 bv) fun w' r1 r2=>hK w' ⟨_,r1,mp_put h1.isMap h2 s hs _⟩ r2
theorem mp_bool' {P:Program} {e:TypeId} (he:P.underlying e=some .bool) {v:Value} {z:DataW Unit × List MemPlace} (h:plainElem P e v=some z): ∃ c,v= .bool c:=by
 unfold plainElem at h;rw[he]at h;cases v with
 |bool c=>exact⟨c,rfl⟩
 |_=>cases h
theorem mp_bool {v:Value} {z:DataW Unit × List MemPlace} (h:plainElem Tryz.prog 4 v=some z): ∃ c,v= .bool c:=mp_bool' Tryz.underlying4 h
theorem mp_size {P:Program} {k:TypeId} (hk:P.underlying k=some .string) {s:ByteArray} {kl:Lit} (h:keyOf P k (.string s)=some kl):s.size≤maxLen∧kl= .string s.data.toList:=by
 by_cases e:s.size≤maxLen
 ·rw[keyOf_string_mk hk e]at h;exact⟨e,(Option.some.inj h).symm⟩
 exfalso;rw[keyOf_string hk]at h;simp[mapKey,hk,e]at h
def isB (v : Value) : Prop := ∃ c, v = .bool c
theorem MapS.wp_has (w:World) (hg:o.guard=none) (m x:Operand) (t:TypeId) (hop:o.op=Op.lookup t m x true) (ht:Tryz.prog.underlying t=some (.map 9 4)) (hz:(zeroValue 4).run Tryz.prog w= .ok (.bool false) w) (b n:Nat) (S:List ByteArray)
 (hm:a.eval m= .map (some b)) (h:MapS w b n S) (s:ByteArray) (hs:s.size≤maxLen) (hx:a.eval x= .string s)
 (hK: ∀ V:Value,isB V→wpList Tryz.prog ops Q rest (a.put o.dst (.tuple #[V,.bool (hasB S s)])) w):wpList Tryz.prog ops Q (o::rest) a w:=by
 obtain⟨D,h1,h2⟩:=h;(refine wpList_lookup_own_ok w hg m x t hop 9 4 mpK ht _ hz _ [] (plainElem_bool Tryz.underlying4 false) b n D hm h1 _ _ hx (keyOf_string_mk Tryz.underlying9 hs) fun v ps hv=>?_);obtain⟨c,rfl⟩:=mp_bool hv;rw[show Maps.has D (.string s.data.toList)=hasB S s by rw[Bool.eq_iff_iff,h2,hasB_iff]];exact hK _ ⟨c,rfl⟩
theorem MapS.wp_get (w:World) (hg:o.guard=none) (m x:Operand) (t:TypeId) (hop:o.op=Op.lookup t m x false) (ht:Tryz.prog.underlying t=some (.map 9 4)) (hz:(zeroValue 4).run Tryz.prog w= .ok (.bool false) w) (b n:Nat) (S:List ByteArray)
 (hm:a.eval m= .map (some b)) (h:MapS w b n S) (s:ByteArray) (hs:s.size≤maxLen) (hx:a.eval x= .string s)
 (hK: ∀ V:Value,isB V→wpList Tryz.prog ops Q rest (a.put o.dst V) w):wpList Tryz.prog ops Q (o::rest) a w:=by
 obtain⟨D,h1,h2⟩:=h;(refine wpList_plain hg fun K' hK'=>?_);obtain⟨v,ps,hrun,hv⟩:=h1.lookup mpK ht hz (plainElem_bool Tryz.underlying4 false) (keyOf_string_mk Tryz.underlying9 hs);obtain⟨c,rfl⟩:=mp_bool hv;unfold Oper.wp;simp[execOp,hop,hm,hx,hrun,Result.andThen];exact hK' _ _ (hK _ ⟨c,rfl⟩)
/-- block b is such a map, block r goes through it; the keys of L are still to come -/
def RangeS (w : World) (b r n : Nat) (S L : List ByteArray) (cnt : Nat) : Prop := ∃ (D : DataW Unit) (left : Lit → Bool), w.ranges Tryz.prog 9 (plainElem Tryz.prog 4) b r n D left cnt ∧ (∀ s : ByteArray, Maps.has D (.string s.data.toList) = true ↔ s ∈ S) ∧ ∀ s : ByteArray, left (.string s.data.toList) = true ↔ s ∈ L
theorem RangeS.map {w:World} {b r n:Nat} {S L:List ByteArray} {cnt:Nat} (h:RangeS w b r n S L cnt):MapS w b n S:=by
 obtain⟨D,left,h1,h2,_⟩:=h;exact⟨D,h1.owns,h2⟩
theorem RangeS.left_eq {w:World} {b r n:Nat} {S L:List ByteArray} {cnt:Nat} (h:RangeS w b r n S L cnt):w.rangeLeft b r=cnt:=by
 obtain⟨D,left,h1,_⟩:=h;exact h1.left_eq
theorem RangeS.lt {w:World} {b r n:Nat} {S L:List ByteArray} {cnt:Nat} (h:RangeS w b r n S L cnt):r<w.heap.size:=by
 obtain⟨D,left,h1,_⟩:=h;exact h1.lt
theorem RangeS.grown {w w1:World} {row:Option Nat} {b r n:Nat} {S L:List ByteArray} {cnt:Nat} (h:RangeS w b r n S L cnt) (hg:w.grownBy w1 row) (hb:some b≠row) (hr:some r≠row):RangeS w1 b r n S L cnt:=by
 obtain⟨D,left,h1,h2⟩:=h;exact⟨D,left,h1.kept hg hb hr,h2⟩
theorem RangeS.below {w w1:World} {b r n:Nat} {S L:List ByteArray} {cnt:Nat} (h:RangeS w b r n S L cnt) (hb:Below w.heap.size w w1):RangeS w1 b r n S L cnt:=h.grown (grown_of_below hb none) (by simp) (by simp)
theorem MapS.wp_range (w:World) (hg:o.guard=none) (m:Operand) (t:TypeId) (hop:o.op=Op.range t m) (ht:Tryz.prog.underlying t=some (.map 9 4)) (b n:Nat) (S:List ByteArray)
 (hm:a.eval m= .map (some b)) (h:MapS w b n S)
 (hK: ∀ w' cnt,cnt≤n→RangeS w' b w.heap.size n S S cnt→w.grownBy w' none→w'.heap.size=w.heap.size+1→wpList Tryz.prog ops Q rest (a.put o.dst (.pointer (some ⟨w.heap.size,0,none⟩))) w'):wpList Tryz.prog ops Q (o::rest) a w:=by
 obtain⟨D,h1,h2⟩:=h;exact wpList_range_own w hg m t hop 9 4 mpK ht _ b n D hm h1 fun w' r1 r2 r3=>hK w' _ h1.size_le ⟨D,_,r1,h2,h2⟩ r2 r3
theorem RangeS.wp_next (w:World) (hg:o.guard=none) (it:Operand) (hop:o.op=Op.next it false) (b r n:Nat) (S L:List ByteArray) (cnt:Nat) (hit:a.eval it= .pointer (some ⟨r,0,none⟩)) (h:RangeS w b r n S L cnt)
 (hDone:(∀ s,s ∉ L)→wpList Tryz.prog ops Q rest (a.put o.dst (.tuple #[.bool false])) w)
 (hMore: ∀ (s:ByteArray) (V:Value) (w':World) (cnt':Nat),isB V→s.size≤maxLen→s ∈ L→RangeS w' b r n S (butB L s) cnt'→cnt'<cnt→w.grownBy w' (some r)→w'.heap.size=w.heap.size→
  (Instr.entry (.pointer (some ⟨r,0,none⟩))).run Tryz.prog w'= .ok (.tuple #[.string s,V]) w'→wpList Tryz.prog ops Q rest (a.put o.dst (.tuple #[.bool true,.string s,V])) w'):wpList Tryz.prog ops Q (o::rest) a w:=by
 obtain⟨D,left,h1,h2,h3⟩:=h;refine wpList_next_ranges w hg it hop 9 mpK _ Value.string Value.bool (fun key kl hk=>Maps.keyOf_string_inv Tryz.underlying9 hk) (fun v y hv=>mp_bool hv) b r n D left cnt hit h1 (fun _ hl=>hDone fun s hs=>?_) fun s c kl y w' cnt' hk hl hv hat hr hc hgr hsz hen=>?_
 ·have:=(h3 s).2 hs;rw[hl]at this;cases this
 obtain⟨hs,rfl⟩:=mp_size Tryz.underlying9 hk;refine hMore s (.bool c) w' cnt' ⟨c,rfl⟩ hs ((h3 s).1 hl) ⟨D,_,hr,h2,fun t=>?_⟩ hc hgr hsz hen;rw[butB_iff,Bool.and_eq_true,h3,Bool.not_eq_true'];(refine and_congr_right fun _=>?_);by_cases e:t=s
 ·subst e;simp[WideAt.sameKey_self (mpK.key hk)]
 have:(Lit.string t.data.toList).sameKey (.string s.data.toList)=false:=by
  cases hq:(Lit.string t.data.toList).sameKey (.string s.data.toList)
  ·rfl
  exact absurd (ba_of_list (by have:=WideAt.sameKey_eq hq;injection this)) e
 simp[this,e]
theorem MapS.run_has {w:World} {t b n:Nat} {S:List ByteArray} (ht:Tryz.prog.underlying t=some (.map 9 4)) (hz:(zeroValue 4).run Tryz.prog w= .ok (.bool false) w) (h:MapS w b n S) {s:ByteArray} (hs:s.size≤maxLen):
 ∃ c,(Instr.lookup t (.map (some b)) (.string s) true).run Tryz.prog w= .ok (.tuple #[.bool c,.bool (hasB S s)]) w:=by
 obtain⟨D,h1,h2⟩:=h;obtain⟨v,ps,hrun,hv⟩:=h1.look_ok mpK ht hz (plainElem_bool Tryz.underlying4 false) (keyOf_string_mk Tryz.underlying9 hs);obtain⟨c,rfl⟩:=mp_bool hv;rw[show Maps.has D (.string s.data.toList)=hasB S s by rw[Bool.eq_iff_iff,h2,hasB_iff]]at hrun;exact⟨c,hrun⟩
end
end Go.Proofs.YtcfoebkbahpnaaaGreat.Hd
