import Derived.Test.YtcfoebkbahpnaaaGreatZF9
import Derived.Test.YtcfoebkbahpnaaaGreatZHb
import Derived.Test.YtcfoebkbahpnaaaGreatZFb
set_option linter.unusedVariables false
namespace Go.Proofs.YtcfoebkbahpnaaaGreat.Ab
open Go
theorem ok20 (n:Nat) (hV:EnvOK G.P (E n (Hs n) 40)):Ent G.P 20 (sp20 n (Hs n)):=fun args objs K r h=>by
 have h0:=h;obtain⟨a1',a2',rfl,k1'⟩:=hdL_inv h;obtain⟨x0,rfl,k2'⟩:=uA_inv k1';obtain⟨rfl,k3'⟩:=endL_inv k2';obtain⟨rfl,k4'⟩:=endL_inv k3';exact ent_of (lv:=noLv) (n:=n) (fn:=Tryz.f20) hE hM hV ⟨by kernel_rfl,by kernel_rfl,⟨b20,by kernel_rfl,by kernel_rfl⟩,Nat.le_of_ble_eq_true (by kernel_rfl),by kernel_rfl⟩ (fun body hb=>by
  obtain rfl:b20=body:=congrArg (fun o=>o.getD Code.skip) hb;exact LvC_of (l:= []) (by kernel_rfl) (all_nil)) (fun K=>by kernel_rfl) h0
theorem ol11_2 (n:Nat) (hV:EnvOK G.P (E n (Hs n) 41)):LvOf G (E n (Hs n) 41) (G.fc 11) 0 n cl11_2 (sl11_2 n (Hs n)):=
 LvOf_r (lv:=(lv11 n (Hs n))) (L:= [0,1,2,7]) (bx:= []) hV (LvC_of (l:= []) (by kernel_rfl) (all_nil)) (by kernel_rfl) (by kernel_rfl) fun m F O K r hF h=>by
  obtain⟨x0,e0,k1'⟩:=sA_inv h;obtain⟨x1,e1,k2'⟩:=iA_inv k1';obtain⟨x2,e2,k3'⟩:=iA_inv k2';obtain⟨x3,e7,k4'⟩:=iA_inv k3';obtain⟨rfl,k5'⟩:=endL_inv k4';simp only[List.map]at hF;rw[e0,e1,e2,e7]at hF;cases m with
  |zero=>exact nomatch (show(none:Option R)=some r from k5')
  |succ m=>exact⟨m,rfl,fun K=>by rw[hF];kernel_rfl⟩
theorem ok11 (n:Nat) (hV:EnvOK G.P (E n (Hs n) 41)):Ent G.P 11 (sp11 n (Hs n)):=fun args objs K r h=>by
 have h0:=h;obtain⟨a1',a2',rfl,k1'⟩:=hdL_inv h;obtain⟨x0,rfl,k2'⟩:=sA_inv k1';obtain⟨a3',a4',rfl,k3'⟩:=hdL_inv k2';obtain⟨x1,rfl,k4'⟩:=iA_inv k3';obtain⟨a5',a6',rfl,k5'⟩:=hdL_inv k4';obtain⟨x2,rfl,k6'⟩:=iA_inv k5';obtain⟨rfl,k7'⟩:=endL_inv k6';obtain⟨rfl,k8'⟩:=endL_inv k7';exact ent_of (lv:=(lv11 n (Hs n))) (n:=n) (fn:=Tryz.f11) hE hM hV ⟨by kernel_rfl,by kernel_rfl,⟨b11,by kernel_rfl,by kernel_rfl⟩,Nat.le_of_ble_eq_true (by kernel_rfl),by kernel_rfl⟩ (fun body hb=>by
  obtain rfl:b11=body:=congrArg (fun o=>o.getD Code.skip) hb;exact LvC_of (l:= [(false,cl11_2)]) (by kernel_rfl) (all_cons (PcL (by kernel_rfl) (ol11_2 n hV)) (all_nil))) (fun K=>by kernel_rfl) h0
theorem ol60_2 (n:Nat) (hV:EnvOK G.P (E n (Hs n) 42)):LvOf G (E n (Hs n) 42) (G.fc 60) 0 n cl60_2 (sl60_2 n (Hs n)):=
 LvOf_r (lv:=(lv60 n (Hs n))) (L:= [0,1,5]) (bx:= []) hV (LvC_of (l:= []) (by kernel_rfl) (all_nil)) (by kernel_rfl) (by kernel_rfl) fun m F O K r hF h=>by
  obtain⟨x0,e0,k1'⟩:=sA_inv h;obtain⟨x1,e1,k2'⟩:=uA_inv k1';obtain⟨x2,e5,k3'⟩:=iA_inv k2';obtain⟨rfl,k4'⟩:=endL_inv k3';simp only[List.map]at hF;rw[e0,e1,e5]at hF;cases m with
  |zero=>exact nomatch (show(none:Option R)=some r from k4')
  |succ m=>exact⟨m,rfl,fun K=>by rw[hF];kernel_rfl⟩
theorem ok60 (n:Nat) (hV:EnvOK G.P (E n (Hs n) 42)):Ent G.P 60 (sp60 n (Hs n)):=fun args objs K r h=>by
 have h0:=h;obtain⟨a1',a2',rfl,k1'⟩:=hdL_inv h;obtain⟨x0,rfl,k2'⟩:=sA_inv k1';obtain⟨a3',a4',rfl,k3'⟩:=hdL_inv k2';obtain⟨x1,rfl,k4'⟩:=uA_inv k3';obtain⟨rfl,k5'⟩:=endL_inv k4';obtain⟨rfl,k6'⟩:=endL_inv k5';exact ent_of (lv:=(lv60 n (Hs n))) (n:=n) (fn:=Tryz.f60) hE hM hV ⟨by kernel_rfl,by kernel_rfl,⟨b60,by kernel_rfl,by kernel_rfl⟩,Nat.le_of_ble_eq_true (by kernel_rfl),by kernel_rfl⟩ (fun body hb=>by
  obtain rfl:b60=body:=congrArg (fun o=>o.getD Code.skip) hb;exact LvC_of (l:= [(false,cl60_2)]) (by kernel_rfl) (all_cons (PcL (by kernel_rfl) (ol60_2 n hV)) (all_nil))) (fun K=>by kernel_rfl) h0
theorem ol64_2 (n:Nat) (hV:EnvOK G.P (E n (Hs n) 43)):LvOf G (E n (Hs n) 43) (G.fc 64) 0 n cl64_2 (sl64_2 n (Hs n)):=
 LvOf_r (lv:=(lv64 n (Hs n))) (L:= [0,1,5]) (bx:= []) hV (LvC_of (l:= []) (by kernel_rfl) (all_nil)) (by kernel_rfl) (by kernel_rfl) fun m F O K r hF h=>by
  obtain⟨x0,e0,k1'⟩:=uA_inv h;obtain⟨x1,e1,k2'⟩:=sA_inv k1';obtain⟨x2,e5,k3'⟩:=iA_inv k2';obtain⟨rfl,k4'⟩:=endL_inv k3';simp only[List.map]at hF;rw[e0,e1,e5]at hF;cases m with
  |zero=>exact nomatch (show(none:Option R)=some r from k4')
  |succ m=>exact⟨m,rfl,fun K=>by rw[hF];kernel_rfl⟩
theorem ok64 (n:Nat) (hV:EnvOK G.P (E n (Hs n) 43)):Ent G.P 64 (sp64 n (Hs n)):=fun args objs K r h=>by
 have h0:=h;obtain⟨a1',a2',rfl,k1'⟩:=hdL_inv h;obtain⟨x0,rfl,k2'⟩:=uA_inv k1';obtain⟨a3',a4',rfl,k3'⟩:=hdL_inv k2';obtain⟨x1,rfl,k4'⟩:=sA_inv k3';obtain⟨rfl,k5'⟩:=endL_inv k4';obtain⟨rfl,k6'⟩:=endL_inv k5';exact ent_of (lv:=(lv64 n (Hs n))) (n:=n) (fn:=Tryz.f64) hE hM hV ⟨by kernel_rfl,by kernel_rfl,⟨b64,by kernel_rfl,by kernel_rfl⟩,Nat.le_of_ble_eq_true (by kernel_rfl),by kernel_rfl⟩ (fun body hb=>by
  obtain rfl:b64=body:=congrArg (fun o=>o.getD Code.skip) hb;exact LvC_of (l:= [(false,cl64_2)]) (by kernel_rfl) (all_cons (PcL (by kernel_rfl) (ol64_2 n hV)) (all_nil))) (fun K=>by kernel_rfl) h0
theorem ol83_2 (n:Nat) (hV:EnvOK G.P (E n (Hs n) 44)):LvOf G (E n (Hs n) 44) (G.fc 83) 0 n cl83_2 (sl83_2 n (Hs n)):=
 LvOf_r (lv:=(lv83 n (Hs n))) (L:= [0,1,5]) (bx:= []) hV (LvC_of (l:= []) (by kernel_rfl) (all_nil)) (by kernel_rfl) (by kernel_rfl) fun m F O K r hF h=>by
  obtain⟨x0,e0,k1'⟩:=sA_inv h;obtain⟨x1,e1,k2'⟩:=iA_inv k1';obtain⟨x2,e5,k3'⟩:=iA_inv k2';obtain⟨rfl,k4'⟩:=endL_inv k3';simp only[List.map]at hF;rw[e0,e1,e5]at hF;cases m with
  |zero=>exact nomatch (show(none:Option R)=some r from k4')
  |succ m=>exact⟨m,rfl,fun K=>by rw[hF];kernel_rfl⟩
theorem ok83 (n:Nat) (hV:EnvOK G.P (E n (Hs n) 44)):Ent G.P 83 (sp83 n (Hs n)):=fun args objs K r h=>by
 have h0:=h;obtain⟨a1',a2',rfl,k1'⟩:=hdL_inv h;obtain⟨x0,rfl,k2'⟩:=sA_inv k1';obtain⟨a3',a4',rfl,k3'⟩:=hdL_inv k2';obtain⟨x1,rfl,k4'⟩:=iA_inv k3';obtain⟨rfl,k5'⟩:=endL_inv k4';obtain⟨rfl,k6'⟩:=endL_inv k5';exact ent_of (lv:=(lv83 n (Hs n))) (n:=n) (fn:=Tryz.f83) hE hM hV ⟨by kernel_rfl,by kernel_rfl,⟨b83,by kernel_rfl,by kernel_rfl⟩,Nat.le_of_ble_eq_true (by kernel_rfl),by kernel_rfl⟩ (fun body hb=>by
  obtain rfl:b83=body:=congrArg (fun o=>o.getD Code.skip) hb;exact LvC_of (l:= [(false,cl83_2)]) (by kernel_rfl) (all_cons (PcL (by kernel_rfl) (ol83_2 n hV)) (all_nil))) (fun K=>by kernel_rfl) h0
theorem ok61 (n:Nat) (hV:EnvOK G.P (E n (Hs n) 45)):Ent G.P 61 (sp61 n (Hs n)):=fun args objs K r h=>by
 have h0:=h;obtain⟨a1',a2',rfl,k1'⟩:=hdL_inv h;obtain⟨x0,rfl,k2'⟩:=sA_inv k1';obtain⟨rfl,k3'⟩:=endL_inv k2';obtain⟨rfl,k4'⟩:=endL_inv k3';exact ent_of (lv:=noLv) (n:=n) (fn:=Tryz.f61) hE hM hV ⟨by kernel_rfl,by kernel_rfl,⟨b61,by kernel_rfl,by kernel_rfl⟩,Nat.le_of_ble_eq_true (by kernel_rfl),by kernel_rfl⟩ (fun body hb=>by
  obtain rfl:b61=body:=congrArg (fun o=>o.getD Code.skip) hb;exact LvC_of (l:= []) (by kernel_rfl) (all_nil)) (fun K=>by kernel_rfl) h0
theorem ol84_2 (n:Nat) (hV:EnvOK G.P (E n (Hs n) 46)):LvOf G (E n (Hs n) 46) (G.fc 84) 0 n cl84_2 (sl84_2 n (Hs n)):=
 LvOf_r (lv:=(lv84 n (Hs n))) (L:= [0,3]) (bx:= []) hV (LvC_of (l:= []) (by kernel_rfl) (all_nil)) (by kernel_rfl) (by kernel_rfl) fun m F O K r hF h=>by
  obtain⟨x0,e0,k1'⟩:=sA_inv h;obtain⟨x1,e3,k2'⟩:=iA_inv k1';obtain⟨rfl,k3'⟩:=endL_inv k2';simp only[List.map]at hF;rw[e0,e3]at hF;cases m with
  |zero=>exact nomatch (show(none:Option R)=some r from k3')
  |succ m=>exact⟨m,rfl,fun K=>by rw[hF];kernel_rfl⟩
theorem ok84 (n:Nat) (hV:EnvOK G.P (E n (Hs n) 46)):Ent G.P 84 (sp84 n (Hs n)):=fun args objs K r h=>by
 have h0:=h;obtain⟨a1',a2',rfl,k1'⟩:=hdL_inv h;obtain⟨x0,rfl,k2'⟩:=sA_inv k1';obtain⟨rfl,k3'⟩:=endL_inv k2';obtain⟨rfl,k4'⟩:=endL_inv k3';exact ent_of (lv:=(lv84 n (Hs n))) (n:=n) (fn:=Tryz.f84) hE hM hV ⟨by kernel_rfl,by kernel_rfl,⟨b84,by kernel_rfl,by kernel_rfl⟩,Nat.le_of_ble_eq_true (by kernel_rfl),by kernel_rfl⟩ (fun body hb=>by
  obtain rfl:b84=body:=congrArg (fun o=>o.getD Code.skip) hb;exact LvC_of (l:= [(false,cl84_2)]) (by kernel_rfl) (all_cons (PcL (by kernel_rfl) (ol84_2 n hV)) (all_nil))) (fun K=>by kernel_rfl) h0
theorem ol85_3 (n:Nat) (hV:EnvOK G.P (E n (Hs n) 47)):LvOf G (E n (Hs n) 47) (G.fc 85) 0 n cl85_3 (sl85_3 n (Hs n)):=
 LvOf_r (lv:=(lv85 n (Hs n))) (L:= [0,4,5]) (bx:= []) hV (LvC_of (l:= []) (by kernel_rfl) (all_nil)) (by kernel_rfl) (by kernel_rfl) fun m F O K r hF h=>by
  obtain⟨x0,e0,k1'⟩:=sA_inv h;obtain⟨x1,e4,k2'⟩:=sA_inv k1';obtain⟨x2,e5,k3'⟩:=iA_inv k2';obtain⟨rfl,k4'⟩:=endL_inv k3';simp only[List.map]at hF;rw[e0,e4,e5]at hF;cases m with
  |zero=>exact nomatch (show(none:Option R)=some r from k4')
  |succ m=>exact⟨m,rfl,fun K=>by rw[hF];kernel_rfl⟩
theorem ok85 (n:Nat) (hV:EnvOK G.P (E n (Hs n) 47)):Ent G.P 85 (sp85 n (Hs n)):=fun args objs K r h=>by
 have h0:=h;obtain⟨a1',a2',rfl,k1'⟩:=hdL_inv h;obtain⟨x0,rfl,k2'⟩:=sA_inv k1';obtain⟨rfl,k3'⟩:=endL_inv k2';obtain⟨rfl,k4'⟩:=endL_inv k3';exact ent_of (lv:=(lv85 n (Hs n))) (n:=n) (fn:=Tryz.f85) hE hM hV ⟨by kernel_rfl,by kernel_rfl,⟨b85,by kernel_rfl,by kernel_rfl⟩,Nat.le_of_ble_eq_true (by kernel_rfl),by kernel_rfl⟩ (fun body hb=>by
  obtain rfl:b85=body:=congrArg (fun o=>o.getD Code.skip) hb;exact LvC_of (l:= [(false,cl85_3)]) (by kernel_rfl) (all_cons (PcL (by kernel_rfl) (ol85_3 n hV)) (all_nil))) (fun K=>by kernel_rfl) h0
theorem ok98 (n:Nat) (hV:EnvOK G.P (E n (Hs n) 48)):Ent G.P 98 (sp98 n (Hs n)):=fun args objs K r h=>by
 have h0:=h;obtain⟨a1',a2',rfl,k1'⟩:=hdL_inv h;obtain⟨x0,rfl,k2'⟩:=sA_inv k1';obtain⟨rfl,k3'⟩:=endL_inv k2';obtain⟨rfl,k4'⟩:=endL_inv k3';exact ent_of (lv:=noLv) (n:=n) (fn:=Tryz.f98) hE hM hV ⟨by kernel_rfl,by kernel_rfl,⟨b98,by kernel_rfl,by kernel_rfl⟩,Nat.le_of_ble_eq_true (by kernel_rfl),by kernel_rfl⟩ (fun body hb=>by
  obtain rfl:b98=body:=congrArg (fun o=>o.getD Code.skip) hb;exact LvC_of (l:= []) (by kernel_rfl) (all_nil)) (fun K=>by kernel_rfl) h0
theorem ol86_8 (n:Nat) (hV:EnvOK G.P (E n (Hs n) 49)):LvOf G (E n (Hs n) 49) (G.fc 86) 0 n cl86_8 (sl86_8 n (Hs n)):=
 LvOf_r (lv:=(lv86 n (Hs n))) (L:= [1,2,4,7]) (bx:= []) hV (LvC_of (l:= []) (by kernel_rfl) (all_nil)) (by kernel_rfl) (by kernel_rfl) fun m F O K r hF h=>by
  obtain⟨x0,e1,k1'⟩:=sA_inv h;obtain⟨e2,k2'⟩:=pA_inv k1';obtain⟨e4,k3'⟩:=pA_inv k2';obtain⟨x1,e7,k4'⟩:=iA_inv k3';obtain⟨o1',o2',rfl,k5'⟩:=hdL_inv k4';obtain⟨c3',rfl,k6'⟩:=soC_inv k5';obtain⟨c4',c5',rfl,k7'⟩:=hdL_inv k6';obtain⟨x2,e',k8'⟩:=iA_inv k7';cases e';obtain⟨c6',c7',rfl,k9'⟩:=hdL_inv k8';obtain⟨x3,e',k10'⟩:=sA_inv k9';cases e';obtain⟨c8',c9',rfl,k11'⟩:=hdL_inv k10';obtain⟨x4,e',k12'⟩:=sA_inv k11';cases e';obtain⟨c10',c11',rfl,k13'⟩:=hdL_inv k12';obtain⟨x5,e',k14'⟩:=sA_inv k13';cases e';obtain⟨rfl,k15'⟩:=endL_inv k14';obtain⟨o12',o13',rfl,k16'⟩:=hdL_inv k15';obtain⟨c14',rfl,k17'⟩:=soC_inv k16';obtain⟨c15',c16',rfl,k18'⟩:=hdL_inv k17';obtain⟨x6,e',k19'⟩:=iA_inv k18';cases e';obtain⟨c17',c18',rfl,k20'⟩:=hdL_inv k19';obtain⟨x7,e',k21'⟩:=sA_inv k20';cases e';obtain⟨c19',c20',rfl,k22'⟩:=hdL_inv k21';obtain⟨x8,e',k23'⟩:=sA_inv k22';cases e';obtain⟨c21',c22',rfl,k24'⟩:=hdL_inv k23';obtain⟨x9,e',k25'⟩:=sA_inv k24';cases e';obtain⟨rfl,k26'⟩:=endL_inv k25';obtain⟨rfl,k27'⟩:=endL_inv k26';simp only[List.map]at hF;rw[e1,e2,e4,e7]at hF;cases m with
  |zero=>exact nomatch (show(none:Option R)=some r from k27')
  |succ m=>exact⟨m,rfl,fun K=>by rw[hF];kernel_rfl⟩
theorem ok86 (n:Nat) (hV:EnvOK G.P (E n (Hs n) 49)):Ent G.P 86 (sp86 n (Hs n)):=fun args objs K r h=>by
 have h0:=h;obtain⟨a1',a2',rfl,k1'⟩:=hdL_inv h;obtain⟨c3',rfl,k2'⟩:=agA_inv k1';obtain⟨c4',c5',rfl,k3'⟩:=hdL_inv k2';obtain⟨x0,e',k4'⟩:=iA_inv k3';cases e';obtain⟨c6',c7',rfl,k5'⟩:=hdL_inv k4';obtain⟨x1,e',k6'⟩:=sA_inv k5';cases e';obtain⟨c8',c9',rfl,k7'⟩:=hdL_inv k6';obtain⟨x2,e',k8'⟩:=sA_inv k7';cases e';obtain⟨c10',c11',rfl,k9'⟩:=hdL_inv k8';obtain⟨x3,e',k10'⟩:=sA_inv k9';cases e';obtain⟨rfl,k11'⟩:=endL_inv k10';obtain⟨a12',a13',rfl,k12'⟩:=hdL_inv k11';obtain⟨x4,rfl,k13'⟩:=sA_inv k12';obtain⟨rfl,k14'⟩:=endL_inv k13';obtain⟨rfl,k15'⟩:=endL_inv k14'
 exact ent_of (lv:=(lv86 n (Hs n))) (n:=n) (fn:=Tryz.f86) hE hM hV ⟨by kernel_rfl,by kernel_rfl,⟨b86,by kernel_rfl,by kernel_rfl⟩,Nat.le_of_ble_eq_true (by kernel_rfl),by kernel_rfl⟩ (fun body hb=>by
  obtain rfl:b86=body:=congrArg (fun o=>o.getD Code.skip) hb;exact LvC_of (l:= [(false,cl86_8)]) (by kernel_rfl) (all_cons (PcL (by kernel_rfl) (ol86_8 n hV)) (all_nil))) (fun K=>by kernel_rfl) h0
end Go.Proofs.YtcfoebkbahpnaaaGreat.Ab

set_option linter.unusedVariables false
set_option linter.unusedSimpArgs false
namespace Go.Proofs.YtcfoebkbahpnaaaGreat.Hd
open Go.RowKit Go.Proofs.YtcfoebkbahpnaaaGreatW.PrintWords Go.Proofs.YtcfoebkbahpnaaaGreatW.PrintLast
open Ab (DV AV Dat OwnA OwnS Pres Fresh AR ORep FunOK Ent EnvOK Enters RowsR slR Who Ro RW)
/-! ### term_iriByte: function 94 -/
def term_iriByte.f (a0 : Int) : Option (Bool) := if a0 = 60 then (some false) else (if a0 = 62 then (some false) else (if a0 = 34 then (some false) else (if a0 = 123 then (some false) else (if a0 = 125 then (some false) else (if a0 = 124 then (some false) else (if a0 = 94 then (some false) else (if a0 = 96 then (some false) else (if a0 = 92 then (some false) else (if a0 ≥ 33 then (some (decide (a0 ≤ 126))) else (some false))))))))))
set_option maxHeartbeats 8000000 in
set_option maxRecDepth 100000 in
theorem term_iriByte.calls (a0:Int) (r:Bool) (w:World) (h:term_iriByte.f a0=some r):
 Calls Tryz.prog 94 #[.int .u8 a0] w fun e w'=>e= .returned (.bool r)∧Drawn0 w w':=by
 have H:(if a0=60 then(some false)else(if a0=62 then(some false)else(if a0=34 then(some false)else(if a0=123 then(some false)else(if a0=125 then(some false)else(if a0=124 then(some false)else(if a0=94 then(some false)else(if a0=96 then(some false)else(if a0=92 then(some false)else(if a0≥33 then(some (decide (a0≤126)))else(some false)))))))))))=some r:=h;clear h;by_cases c2:a0=60
 ·rw[if_pos c2]at H;have c2b0:(a0==60)=true:=beq_iff_eq.mpr c2;have c2b1:(a0 !=60)=false:=bne_eq_false_iff_eq.mpr c2;clear c2;obtain rfl:=Option.some.inj H;go_enter Tryz.func94,Tryz.ntmps94;go_wp2;go_ret;exact⟨by first|rfl|(simp;done)|(simp[*];done),by repeat(first|exact Drawn0.refl _|apply Drawn0.step)⟩
 rw[if_neg c2]at H;have c2b0:(a0==60)=false:=beq_eq_false_iff_ne.mpr c2;have c2b1:(a0 !=60)=true:=bne_iff_ne.mpr c2;by_cases c3:a0=62
 ·rw[if_pos c3]at H;have c3b0:(a0==62)=true:=beq_iff_eq.mpr c3;have c3b1:(a0 !=62)=false:=bne_eq_false_iff_eq.mpr c3;clear c3;obtain rfl:=Option.some.inj H;go_enter Tryz.func94,Tryz.ntmps94;go_wp2;go_ret;exact⟨by first|rfl|(simp;done)|(simp[*];done),by repeat(first|exact Drawn0.refl _|apply Drawn0.step)⟩
 rw[if_neg c3]at H;have c3b0:(a0==62)=false:=beq_eq_false_iff_ne.mpr c3;have c3b1:(a0 !=62)=true:=bne_iff_ne.mpr c3;by_cases c4:a0=34
 ·rw[if_pos c4]at H;have c4b0:(a0==34)=true:=beq_iff_eq.mpr c4;have c4b1:(a0 !=34)=false:=bne_eq_false_iff_eq.mpr c4;clear c4;obtain rfl:=Option.some.inj H;go_enter Tryz.func94,Tryz.ntmps94;go_wp2;go_ret;exact⟨by first|rfl|(simp;done)|(simp[*];done),by repeat(first|exact Drawn0.refl _|apply Drawn0.step)⟩
 rw[if_neg c4]at H;have c4b0:(a0==34)=false:=beq_eq_false_iff_ne.mpr c4;have c4b1:(a0 !=34)=true:=bne_iff_ne.mpr c4;by_cases c5:a0=123
 ·rw[if_pos c5]at H;have c5b0:(a0==123)=true:=beq_iff_eq.mpr c5;have c5b1:(a0 !=123)=false:=bne_eq_false_iff_eq.mpr c5;clear c5;obtain rfl:=Option.some.inj H;go_enter Tryz.func94,Tryz.ntmps94;go_wp2;go_ret;exact⟨by first|rfl|(simp;done)|(simp[*];done),by repeat(first|exact Drawn0.refl _|apply Drawn0.step)⟩
 rw[if_neg c5]at H;have c5b0:(a0==123)=false:=beq_eq_false_iff_ne.mpr c5;have c5b1:(a0 !=123)=true:=bne_iff_ne.mpr c5;by_cases c6:a0=125
 ·rw[if_pos c6]at H;have c6b0:(a0==125)=true:=beq_iff_eq.mpr c6;have c6b1:(a0 !=125)=false:=bne_eq_false_iff_eq.mpr c6;clear c6;obtain rfl:=Option.some.inj H;go_enter Tryz.func94,Tryz.ntmps94;go_wp2;go_ret;exact⟨by first|rfl|(simp;done)|(simp[*];done),by repeat(first|exact Drawn0.refl _|apply Drawn0.step)⟩
 rw[if_neg c6]at H;have c6b0:(a0==125)=false:=beq_eq_false_iff_ne.mpr c6;have c6b1:(a0 !=125)=true:=bne_iff_ne.mpr c6;by_cases c7:a0=124
 ·rw[if_pos c7]at H;have c7b0:(a0==124)=true:=beq_iff_eq.mpr c7;have c7b1:(a0 !=124)=false:=bne_eq_false_iff_eq.mpr c7;clear c7;obtain rfl:=Option.some.inj H;go_enter Tryz.func94,Tryz.ntmps94;go_wp2;go_ret;exact⟨by first|rfl|(simp;done)|(simp[*];done),by repeat(first|exact Drawn0.refl _|apply Drawn0.step)⟩
 rw[if_neg c7]at H;have c7b0:(a0==124)=false:=beq_eq_false_iff_ne.mpr c7;have c7b1:(a0 !=124)=true:=bne_iff_ne.mpr c7;by_cases c8:a0=94
 ·rw[if_pos c8]at H;have c8b0:(a0==94)=true:=beq_iff_eq.mpr c8;have c8b1:(a0 !=94)=false:=bne_eq_false_iff_eq.mpr c8;clear c8;obtain rfl:=Option.some.inj H;go_enter Tryz.func94,Tryz.ntmps94;go_wp2;go_ret;exact⟨by first|rfl|(simp;done)|(simp[*];done),by repeat(first|exact Drawn0.refl _|apply Drawn0.step)⟩
 rw[if_neg c8]at H;have c8b0:(a0==94)=false:=beq_eq_false_iff_ne.mpr c8;have c8b1:(a0 !=94)=true:=bne_iff_ne.mpr c8;by_cases c9:a0=96
 ·rw[if_pos c9]at H;have c9b0:(a0==96)=true:=beq_iff_eq.mpr c9;have c9b1:(a0 !=96)=false:=bne_eq_false_iff_eq.mpr c9;clear c9;obtain rfl:=Option.some.inj H;go_enter Tryz.func94,Tryz.ntmps94;go_wp2;go_ret;exact⟨by first|rfl|(simp;done)|(simp[*];done),by repeat(first|exact Drawn0.refl _|apply Drawn0.step)⟩
 rw[if_neg c9]at H;have c9b0:(a0==96)=false:=beq_eq_false_iff_ne.mpr c9;have c9b1:(a0 !=96)=true:=bne_iff_ne.mpr c9;by_cases c10:a0=92
 ·rw[if_pos c10]at H;have c10b0:(a0==92)=true:=beq_iff_eq.mpr c10;have c10b1:(a0 !=92)=false:=bne_eq_false_iff_eq.mpr c10;clear c10;obtain rfl:=Option.some.inj H;go_enter Tryz.func94,Tryz.ntmps94;go_wp2;go_ret;exact⟨by first|rfl|(simp;done)|(simp[*];done),by repeat(first|exact Drawn0.refl _|apply Drawn0.step)⟩
 rw[if_neg c10]at H;have c10b0:(a0==92)=false:=beq_eq_false_iff_ne.mpr c10;have c10b1:(a0 !=92)=true:=bne_iff_ne.mpr c10;by_cases c11:a0≥33
 ·rw[if_pos c11]at H;have c11b0:decide (33≤a0)=true:=decide_eq_true c11;clear c11;obtain rfl:=Option.some.inj H;go_enter Tryz.func94,Tryz.ntmps94;go_wp2;go_ret;exact⟨by first|rfl|(simp;done)|(simp[*];done),by repeat(first|exact Drawn0.refl _|apply Drawn0.step)⟩
 rw[if_neg c11]at H;have c11b0:decide (33≤a0)=false:=decide_eq_false c11;clear c11;obtain rfl:=Option.some.inj H;go_enter Tryz.func94,Tryz.ntmps94;go_wp2;go_ret;exact⟨by first|rfl|(simp;done)|(simp[*];done),by repeat(first|exact Drawn0.refl _|apply Drawn0.step)⟩
def iriB (c : UInt8) : Bool := term_iriByte.f (c.toNat : Int) == some true
theorem iriByte_tot (x:Int): ∃ r,term_iriByte.f x=some r:=by
 unfold term_iriByte.f;(repeat' split);all_goals exact⟨_,rfl⟩
theorem iriByte_at (c:UInt8):term_iriByte.f (c.toNat:Int)=some (iriB c):=by
 obtain⟨r,hr⟩:=iriByte_tot (c.toNat:Int);unfold iriB;rw[hr];cases r<;>rfl
theorem iriB_low {c:UInt8} (h:iriB c=true):c.toNat<128:=by
 unfold iriB at h;have h1:=beq_iff_eq.1 h;unfold term_iriByte.f at h1;(repeat' split at h1);all_goals first|(simp at h1;done)|(simp only[Option.some.injEq,decide_eq_true_eq]at h1;omega)
def term_isIri.f (a0 : ByteArray) : Option (Bool) := some (decide (0 < a0.size) && decide (a0.size ≤ 4096) && a0.data.toList.all iriB)
theorem isIri_bt (s:ByteArray) (pos:Nat) (h:pos<s.size):bt s (pos:Int)=((s.data.toList[pos]'(by rw[Array.length_toList];exact h)).toNat:Int):=by
 unfold bt;rw[dif_pos (by simpa using h)];simp;rfl
set_option maxHeartbeats 2000000 in
set_option maxRecDepth 100000 in
theorem term_isIri.calls (a0:ByteArray) (r:Bool) (w:World) (h:term_isIri.f a0=some r):
 Calls Tryz.prog 74 #[.string a0] w fun e w'=>e= .returned (.bool r)∧Below w.heap.size w w':=by
 have hr:=Option.some.inj h;clear h;by_cases c0:a0.toList=([]:List UInt8)
 ·have e0:a0.size=0:=by
   have:a0.data.toList= []:=(by rw[← Lib.toList_data];exact c0);have h2:a0.data.toList.length=a0.size:=Array.length_toList;rw[this]at h2;simpa using h2.symm
  have c0b:(a0.toList==([]:List UInt8))=true:=beq_iff_eq.mpr c0;have c0c:a0.toList.isEmpty=true:=(by simpa using c0);(obtain rfl:false=r:=by rw[← hr];simp[e0]);clear hr c0;go_enter Tryz.func74,Tryz.ntmps74;go_wp2;go_ret;exact⟨rfl,Below.refl _ _⟩
 have e0:0<a0.size:=by
  rcases Nat.eq_zero_or_pos a0.size with h0|h0
  ·exfalso;apply c0;have h2:a0.data.toList.length=a0.size:=Array.length_toList;have h3:a0.data.toList= []:=List.length_eq_zero_iff.1 (h2.trans h0);rw[Lib.toList_data];exact h3
  exact h0
 have c0b:(a0.toList==([]:List UInt8))=false:=beq_eq_false_iff_ne.mpr c0;have c0c:a0.toList.isEmpty=false:=(by simpa using c0);have E0:=Aside0.mk e0;clear c0 e0;by_cases c1:(a0.size:Int)>4096
 ·have c1b:decide (4096<(a0.size:Int))=true:=decide_eq_true c1;have c1c:decide (4096<a0.size)=true:=decide_eq_true (by omega);(obtain rfl:false=r:=by rw[← hr,decide_eq_false (show ¬ a0.size≤4096 by omega)];simp);clear hr c1;go_enter Tryz.func74,Tryz.ntmps74;go_wp2;go_ret;exact⟨rfl,Below.refl _ _⟩
 have c1b:decide (4096<(a0.size:Int))=false:=decide_eq_false c1;have c1c:decide (4096<a0.size)=false:=decide_eq_false (by omega);have hr':a0.data.toList.all iriB=r:=(by rw[← hr,decide_eq_true E0.out,decide_eq_true (show a0.size≤4096 by omega)];simp);have HR:=Aside0.mk hr';clear hr hr' c1;go_enter Tryz.func74,Tryz.ntmps74;go_wp2;go_loopw [] (fun w'=> ∃ pos:Nat,w'.heap[w.heap.size]? =some (.stringIter a0 pos)∧Aside0 (Below w.heap.size w w')∧Aside0 (pos≤a0.size∧(a0.data.toList.take pos).all iriB=true)) (fun w'=>a0.size - w'.iterPos w.heap.size);(case atStart=>exact⟨0,World.iter_heap w a0 0,⟨(Below.refl _ _).alloc (Nat.le_refl _) _⟩,⟨Nat.zero_le _,rfl⟩⟩);case round=>
  obtain⟨pos,hit,HB,HP⟩:=hrel;have hpos:wr.iterPos w.heap.size=pos:=(by simp[World.iterPos,hit]);by_cases hp:pos<a0.size
  ·(have hnx:=fun ty=>Lib.run_next_any_at (P:=Tryz.prog) wr w.heap.size a0 pos ty hit hp);have hbt:=isIri_bt a0 pos hp;have hio:=iriByte_at (a0.data.toList[pos]'(by rw[Array.length_toList];exact hp));have p5:((0:Int)≤(pos:Int))=True:=eq_true (by omega);have q5:((pos:Int)<(a0.size:Int))=True:=eq_true (by omega);have hx5:=bt_at a0 (pos:Int);rw[hbt]at hx5;have hit2:=Lib.iterAt_heap wr w.heap.size a0 pos (pos+(Utf8.decode a0 pos).2) hit;cases hi:iriB (a0.data.toList[pos]'(by rw[Array.length_toList];exact hp))with
   |false=>
    rw[hi]at hio;go_wp2_with (refine(term_iriByte.calls _ false _ hio).mono ?_;rintro e w3 ⟨rfl,⟨m3,rfl⟩⟩);go_ret;have hf:r=false:=by
     rw[← HR.out,Bool.eq_false_iff];intro hall;have:=List.all_eq_true.1 hall _ (List.getElem_mem (show pos<a0.data.toList.length by rw[Array.length_toList];exact hp));rw[hi]at this;cases this
    refine⟨by rw[hf];rfl,?_⟩;exact Lib.below_iterAt HB.out (Nat.le_refl _) a0 _|>.trans ⟨rfl,rfl,rfl,Nat.le_refl _,fun _ _=>rfl⟩
   |true=>
    rw[hi]at hio;go_wp2_with (refine(term_iriByte.calls _ true _ hio).mono ?_;rintro e w3 ⟨rfl,⟨m3,rfl⟩⟩);have hlow:=iriB_low hi;have hdec:Utf8.decode a0 pos=((a0[pos]'hp).toNat,1):=decode_ascii a0 pos hp hlow;rw[hdec]at hit2 ⊢;go_roundw;case rel=>
     refine⟨pos+1,hit2,⟨Lib.below_iterAt HB.out (Nat.le_refl _) a0 _|>.trans ⟨rfl,rfl,rfl,Nat.le_refl _,fun _ _=>rfl⟩⟩,⟨by omega,?_⟩⟩;rw[List.take_add_one,List.all_append,HP.out.2,List.getElem?_eq_getElem (show pos<a0.data.toList.length by rw[Array.length_toList];exact hp)];simpa using hi
    case measure=>
     have h5:(wr.iterAt w.heap.size a0 (pos+1)).iterPos w.heap.size=pos+1:=(by simp only[World.iterPos,hit2]);(show a0.size - (wr.iterAt w.heap.size a0 (pos+1)).iterPos w.heap.size<a0.size - wr.iterPos w.heap.size);rw[h5,hpos];omega
  (have hnx:=fun ty=>Lib.run_next_end_at (P:=Tryz.prog) wr w.heap.size a0 pos ty hit hp);go_wp2;go_ret;have hpe:pos=a0.size:=Nat.le_antisymm HP.out.1 (Nat.not_lt.1 hp);refine⟨?_,HB.out⟩;have h2:=HP.out.2;rw[hpe,List.take_of_length_le (by rw[Array.length_toList];exact Nat.le_refl _),HR.out]at h2;rw[h2];rfl
theorem iri_eq (c:UInt8):iriB c=iriC c:=forall_byte (P:=fun c=>iriB c=iriC c) (by decide+kernel) c
theorem isIri_f (s:ByteArray):term_isIri.f s=some (okIri s.data.toList):=by
 unfold term_isIri.f okIri;have e:(iriB:UInt8→Bool)=iriC:=funext iri_eq;rw[e,← size_toList];cases s.data.toList with
 |nil=>rfl
 |cons c r=>simp
open Ab in
/-- term.isIri -/
theorem h74 (n:Nat):Ent G.P 74 (sp74 n (Hs n)):=by
 intro args obs K r h;unfold sp74 at h;obtain⟨a,a2,rfl,h⟩:=hdL_inv h;obtain⟨s,rfl,h⟩:=sA_inv h;obtain⟨rfl,h⟩:=endL_inv h;obtain⟨rfl,h⟩:=endL_inv h;refine⟨(B (okIri s.data.toList),[]),fun _=>rfl,⟨Tryz.f74,by kernel_rfl,by kernel_rfl,by kernel_rfl⟩,funOK_of (xs:= [Ab.S s]) (Ret.v rfl) fun D w vs hv=>?_⟩;obtain⟨v,rfl,kv⟩:=hv.one;rw[dat_v kv];exact term_isIri.calls s _ w (isIri_f s)
end Go.Proofs.YtcfoebkbahpnaaaGreat.Hd
