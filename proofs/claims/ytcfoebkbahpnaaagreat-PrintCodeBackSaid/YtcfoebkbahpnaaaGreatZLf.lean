import Derived.Test.YtcfoebkbahpnaaaGreatZF9
import Derived.Test.YtcfoebkbahpnaaaGreatZWWords
import Derived.Test.YtcfoebkbahpnaaaGreatZAd
import Derived.Test.YtcfoebkbahpnaaaGreatZWFoot
import Derived.Test.YtcfoebkbahpnaaaGreatZSt
set_option linter.unusedVariables false
namespace Go.Proofs.YtcfoebkbahpnaaaGreat.Ab
open Go
theorem ok40 (n:Nat) (hV:EnvOK G.P (E n (Hs n) 64)):Ent G.P 40 (sp40 n (Hs n)):=fun args objs K r h=>by
 have h0:=h;obtain⟨a1',a2',rfl,k1'⟩:=hdL_inv h;obtain⟨x0,rfl,k2'⟩:=lA_inv k1';obtain⟨a3',a4',rfl,k3'⟩:=hdL_inv k2';obtain⟨x1,rfl,k4'⟩:=lA_inv k3';obtain⟨rfl,k5'⟩:=endL_inv k4';obtain⟨rfl,k6'⟩:=endL_inv k5';exact ent_of (lv:=noLv) (n:=n) (fn:=Tryz.f40) hE hM hV ⟨by kernel_rfl,by kernel_rfl,⟨b40,by kernel_rfl,by kernel_rfl⟩,Nat.le_of_ble_eq_true (by kernel_rfl),by kernel_rfl⟩ (fun body hb=>by
  obtain rfl:b40=body:=congrArg (fun o=>o.getD Code.skip) hb;exact LvC_of (l:= []) (by kernel_rfl) (all_nil)) (fun K=>by kernel_rfl) h0
theorem ok42 (n:Nat) (hV:EnvOK G.P (E n (Hs n) 65)):Ent G.P 42 (sp42 n (Hs n)):=fun args objs K r h=>by
 have h0:=h;obtain⟨a1',a2',rfl,k1'⟩:=hdL_inv h;obtain⟨rfl,k2'⟩:=pA_inv k1';obtain⟨a3',a4',rfl,k3'⟩:=hdL_inv k2';obtain⟨x0,rfl,k4'⟩:=sA_inv k3';obtain⟨rfl,k5'⟩:=endL_inv k4';obtain⟨o5',o6',rfl,k6'⟩:=hdL_inv k5';obtain⟨c7',c8',rfl,k7'⟩:=hdL_inv k6';obtain⟨x1,e',k8'⟩:=lA_inv k7';cases e';obtain⟨c9',c10',rfl,k9'⟩:=hdL_inv k8';obtain⟨x2,e',k10'⟩:=iA_inv k9';cases e';obtain⟨c11',c12',rfl,k11'⟩:=hdL_inv k10';obtain⟨x3,e',k12'⟩:=bA_inv k11';cases e';obtain⟨rfl,k13'⟩:=endL_inv k12';obtain⟨rfl,k14'⟩:=endL_inv k13'
 exact ent_of (lv:=noLv) (n:=n) (fn:=Tryz.f42) hE hM hV ⟨by kernel_rfl,by kernel_rfl,⟨b42,by kernel_rfl,by kernel_rfl⟩,Nat.le_of_ble_eq_true (by kernel_rfl),by kernel_rfl⟩ (fun body hb=>by
  obtain rfl:b42=body:=congrArg (fun o=>o.getD Code.skip) hb;exact LvC_of (l:= []) (by kernel_rfl) (all_nil)) (fun K=>by kernel_rfl) h0
theorem ok100 (n:Nat) (hV:EnvOK G.P (E n (Hs n) 66)):Ent G.P 100 (sp100 n (Hs n)):=fun args objs K r h=>by
 have h0:=h;obtain⟨a1',a2',rfl,k1'⟩:=hdL_inv h;obtain⟨x0,rfl,k2'⟩:=iA_inv k1';obtain⟨rfl,k3'⟩:=endL_inv k2';obtain⟨rfl,k4'⟩:=endL_inv k3';exact ent_of (lv:=noLv) (n:=n) (fn:=Tryz.f100) hE hM hV ⟨by kernel_rfl,by kernel_rfl,⟨b100,by kernel_rfl,by kernel_rfl⟩,Nat.le_of_ble_eq_true (by kernel_rfl),by kernel_rfl⟩ (fun body hb=>by
  obtain rfl:b100=body:=congrArg (fun o=>o.getD Code.skip) hb;exact LvC_of (l:= []) (by kernel_rfl) (all_nil)) (fun K=>by kernel_rfl) h0
theorem ok106 (n:Nat) (hV:EnvOK G.P (E n (Hs n) 67)):Ent G.P 106 (sp106 n (Hs n)):=fun args objs K r h=>by
 have h0:=h;obtain⟨a1',a2',rfl,k1'⟩:=hdL_inv h;obtain⟨rfl,k2'⟩:=pA_inv k1';obtain⟨a3',a4',rfl,k3'⟩:=hdL_inv k2';obtain⟨x0,rfl,k4'⟩:=iA_inv k3';obtain⟨a5',a6',rfl,k5'⟩:=hdL_inv k4';obtain⟨x1,rfl,k6'⟩:=sA_inv k5';obtain⟨rfl,k7'⟩:=endL_inv k6';obtain⟨o7',o8',rfl,k8'⟩:=hdL_inv k7';obtain⟨c9',c10',rfl,k9'⟩:=hdL_inv k8';obtain⟨x2,e',k10'⟩:=lA_inv k9';cases e';obtain⟨c11',c12',rfl,k11'⟩:=hdL_inv k10';obtain⟨x3,e',k12'⟩:=iA_inv k11';cases e';obtain⟨c13',c14',rfl,k13'⟩:=hdL_inv k12';obtain⟨x4,e',k14'⟩:=lA_inv k13';cases e';obtain⟨c15',c16',rfl,k15'⟩:=hdL_inv k14';obtain⟨x5,e',k16'⟩:=bA_inv k15';cases e';obtain⟨rfl,k17'⟩:=endL_inv k16';obtain⟨rfl,k18'⟩:=endL_inv k17'
 exact ent_of (lv:=noLv) (n:=n) (fn:=Tryz.f106) hE hM hV ⟨by kernel_rfl,by kernel_rfl,⟨b106,by kernel_rfl,by kernel_rfl⟩,Nat.le_of_ble_eq_true (by kernel_rfl),by kernel_rfl⟩ (fun body hb=>by
  obtain rfl:b106=body:=congrArg (fun o=>o.getD Code.skip) hb;exact LvC_of (l:= []) (by kernel_rfl) (all_nil)) (fun K=>by kernel_rfl) h0
theorem ok101 (n:Nat) (hV:EnvOK G.P (E n (Hs n) 68)):Ent G.P 101 (sp101 n (Hs n)):=fun args objs K r h=>by
 have h0:=h;obtain⟨a1',a2',rfl,k1'⟩:=hdL_inv h;obtain⟨rfl,k2'⟩:=pA_inv k1';obtain⟨a3',a4',rfl,k3'⟩:=hdL_inv k2';obtain⟨x0,rfl,k4'⟩:=sA_inv k3';obtain⟨rfl,k5'⟩:=endL_inv k4';obtain⟨o5',o6',rfl,k6'⟩:=hdL_inv k5';obtain⟨c7',c8',rfl,k7'⟩:=hdL_inv k6';obtain⟨x1,e',k8'⟩:=lA_inv k7';cases e';obtain⟨c9',c10',rfl,k9'⟩:=hdL_inv k8';obtain⟨x2,e',k10'⟩:=iA_inv k9';cases e';obtain⟨c11',c12',rfl,k11'⟩:=hdL_inv k10';obtain⟨x3,e',k12'⟩:=lA_inv k11';cases e';obtain⟨c13',c14',rfl,k13'⟩:=hdL_inv k12';obtain⟨x4,e',k14'⟩:=bA_inv k13';cases e';obtain⟨rfl,k15'⟩:=endL_inv k14';obtain⟨rfl,k16'⟩:=endL_inv k15'
 exact ent_of (lv:=noLv) (n:=n) (fn:=Tryz.f101) hE hM hV ⟨by kernel_rfl,by kernel_rfl,⟨b101,by kernel_rfl,by kernel_rfl⟩,Nat.le_of_ble_eq_true (by kernel_rfl),by kernel_rfl⟩ (fun body hb=>by
  obtain rfl:b101=body:=congrArg (fun o=>o.getD Code.skip) hb;exact LvC_of (l:= []) (by kernel_rfl) (all_nil)) (fun K=>by kernel_rfl) h0
theorem ok102 (n:Nat) (hV:EnvOK G.P (E n (Hs n) 69)):Ent G.P 102 (sp102 n (Hs n)):=fun args objs K r h=>by
 have h0:=h;obtain⟨a1',a2',rfl,k1'⟩:=hdL_inv h;obtain⟨rfl,k2'⟩:=pA_inv k1';obtain⟨a3',a4',rfl,k3'⟩:=hdL_inv k2';obtain⟨c5',rfl,k4'⟩:=agA_inv k3';obtain⟨c6',c7',rfl,k5'⟩:=hdL_inv k4';obtain⟨x0,e',k6'⟩:=iA_inv k5';cases e';obtain⟨c8',c9',rfl,k7'⟩:=hdL_inv k6';obtain⟨x1,e',k8'⟩:=iA_inv k7';cases e';obtain⟨c10',c11',rfl,k9'⟩:=hdL_inv k8';obtain⟨x2,e',k10'⟩:=sA_inv k9';cases e';obtain⟨c12',c13',rfl,k11'⟩:=hdL_inv k10';obtain⟨x3,e',k12'⟩:=sA_inv k11';cases e';obtain⟨c14',c15',rfl,k13'⟩:=hdL_inv k12';obtain⟨x4,e',k14'⟩:=sA_inv k13';cases e';obtain⟨c16',c17',rfl,k15'⟩:=hdL_inv k14';obtain⟨x5,e',k16'⟩:=sA_inv k15';cases e';obtain⟨c18',c19',rfl,k17'⟩:=hdL_inv k16';obtain⟨x6,e',k18'⟩:=iA_inv k17';cases e';obtain⟨rfl,k19'⟩:=endL_inv k18';obtain⟨rfl,k20'⟩:=endL_inv k19';obtain⟨o20',o21',rfl,k21'⟩:=hdL_inv k20';obtain⟨c22',c23',rfl,k22'⟩:=hdL_inv k21';obtain⟨x7,e',k23'⟩:=lA_inv k22';cases e';obtain⟨c24',c25',rfl,k24'⟩:=hdL_inv k23';obtain⟨x8,e',k25'⟩:=iA_inv k24';cases e';obtain⟨c26',c27',rfl,k26'⟩:=hdL_inv k25';obtain⟨x9,e',k27'⟩:=lA_inv k26';cases e';obtain⟨c28',c29',rfl,k28'⟩:=hdL_inv k27';obtain⟨x10,e',k29'⟩:=bA_inv k28';cases e';obtain⟨rfl,k30'⟩:=endL_inv k29';obtain⟨rfl,k31'⟩:=endL_inv k30'
 exact ent_of (lv:=noLv) (n:=n) (fn:=Tryz.f102) hE hM hV ⟨by kernel_rfl,by kernel_rfl,⟨b102,by kernel_rfl,by kernel_rfl⟩,Nat.le_of_ble_eq_true (by kernel_rfl),by kernel_rfl⟩ (fun body hb=>by
  obtain rfl:b102=body:=congrArg (fun o=>o.getD Code.skip) hb;exact LvC_of (l:= []) (by kernel_rfl) (all_nil)) (fun K=>by kernel_rfl) h0
theorem ok107 (n:Nat) (hV:EnvOK G.P (E n (Hs n) 70)):Ent G.P 107 (sp107 n (Hs n)):=fun args objs K r h=>by
 have h0:=h;obtain⟨a1',a2',rfl,k1'⟩:=hdL_inv h;obtain⟨rfl,k2'⟩:=pA_inv k1';obtain⟨a3',a4',rfl,k3'⟩:=hdL_inv k2';obtain⟨x0,rfl,k4'⟩:=sA_inv k3';obtain⟨rfl,k5'⟩:=endL_inv k4';obtain⟨o5',o6',rfl,k6'⟩:=hdL_inv k5';obtain⟨c7',c8',rfl,k7'⟩:=hdL_inv k6';obtain⟨x1,e',k8'⟩:=lA_inv k7';cases e';obtain⟨c9',c10',rfl,k9'⟩:=hdL_inv k8';obtain⟨x2,e',k10'⟩:=iA_inv k9';cases e';obtain⟨c11',c12',rfl,k11'⟩:=hdL_inv k10';obtain⟨x3,e',k12'⟩:=lA_inv k11';cases e';obtain⟨c13',c14',rfl,k13'⟩:=hdL_inv k12';obtain⟨x4,e',k14'⟩:=bA_inv k13';cases e';obtain⟨rfl,k15'⟩:=endL_inv k14';obtain⟨rfl,k16'⟩:=endL_inv k15'
 exact ent_of (lv:=noLv) (n:=n) (fn:=Tryz.f107) hE hM hV ⟨by kernel_rfl,by kernel_rfl,⟨b107,by kernel_rfl,by kernel_rfl⟩,Nat.le_of_ble_eq_true (by kernel_rfl),by kernel_rfl⟩ (fun body hb=>by
  obtain rfl:b107=body:=congrArg (fun o=>o.getD Code.skip) hb;exact LvC_of (l:= []) (by kernel_rfl) (all_nil)) (fun K=>by kernel_rfl) h0
theorem ol89_5 (n:Nat) (hs:Hd) (hV:EnvOK G.P (E n hs 76)):LvOf G (E n hs 76) (G.fc 89) 1 n cl89_5 (sl89_5 n hs):=
 LvOf_r (lv:=(lv89 n hs)) (L:= [0,1,20,21,22]) (bx:= []) hV (LvC_of (l:= []) (by kernel_rfl) (all_nil)) (by kernel_rfl) (by kernel_rfl) fun m F O K r hF h=>by
  obtain⟨e0,k1'⟩:=pA_inv h;obtain⟨x0,e1,k2'⟩:=iA_inv k1';obtain⟨x1,e20,k3'⟩:=lA_inv k2';obtain⟨x2,e21,k4'⟩:=iA_inv k3';obtain⟨x3,e22,k5'⟩:=iA_inv k4';obtain⟨o1',o2',rfl,k6'⟩:=hdL_inv k5';obtain⟨c3',rfl,k7'⟩:=soC_inv k6';obtain⟨c4',c5',rfl,k8'⟩:=hdL_inv k7';obtain⟨x4,e',k9'⟩:=lA_inv k8';cases e';obtain⟨c6',c7',rfl,k10'⟩:=hdL_inv k9';obtain⟨x5,e',k11'⟩:=iA_inv k10';cases e';obtain⟨c8',c9',rfl,k12'⟩:=hdL_inv k11';obtain⟨x6,e',k13'⟩:=lA_inv k12';cases e';obtain⟨c10',c11',rfl,k14'⟩:=hdL_inv k13';obtain⟨x7,e',k15'⟩:=bA_inv k14';cases e';obtain⟨rfl,k16'⟩:=endL_inv k15';obtain⟨rfl,k17'⟩:=endL_inv k16';simp only[List.map]at hF;rw[e0,e1,e20,e21,e22]at hF;cases m with
  |zero=>exact nomatch (show(none:Option R)=some r from k17')
  |succ m=>exact⟨m,rfl,fun K=>by rw[hF];kernel_rfl⟩
theorem ol89_3 (n:Nat) (hs:Hd) (hV:EnvOK G.P (E n hs 76)):LvOf G (E n hs 76) (G.fc 89) 1 n cl89_3 (sl89_3 n hs):=
 LvOf_r (lv:=(lv89 n hs)) (L:= [0,1]) (bx:= []) hV (LvC_of (l:= [(false,cl89_5)]) (by kernel_rfl) (all_cons (PcL (by kernel_rfl) (ol89_5 n hs hV)) (all_nil))) (by kernel_rfl) (by kernel_rfl) fun m F O K r hF h=>by
  obtain⟨e0,k1'⟩:=pA_inv h;obtain⟨x0,e1,k2'⟩:=iA_inv k1';obtain⟨o1',o2',rfl,k3'⟩:=hdL_inv k2';obtain⟨c3',rfl,k4'⟩:=soC_inv k3';obtain⟨c4',c5',rfl,k5'⟩:=hdL_inv k4';obtain⟨x1,e',k6'⟩:=lA_inv k5';cases e';obtain⟨c6',c7',rfl,k7'⟩:=hdL_inv k6';obtain⟨x2,e',k8'⟩:=iA_inv k7';cases e';obtain⟨c8',c9',rfl,k9'⟩:=hdL_inv k8';obtain⟨x3,e',k10'⟩:=lA_inv k9';cases e';obtain⟨c10',c11',rfl,k11'⟩:=hdL_inv k10';obtain⟨x4,e',k12'⟩:=bA_inv k11';cases e';obtain⟨rfl,k13'⟩:=endL_inv k12';obtain⟨rfl,k14'⟩:=endL_inv k13';simp only[List.map]at hF;rw[e0,e1]at hF;cases m with
  |zero=>exact nomatch (show(none:Option R)=some r from k14')
  |succ m=>exact⟨m,rfl,fun K=>by rw[hF];kernel_rfl⟩
theorem ok89 (n:Nat) (hs:Hd) (hV:EnvOK G.P (E n hs 76)):Ent G.P 89 (sp89 (formula_parser_level.g n hs.h89 hs.h99)):=fun args objs K r h=>by
 have h0:=h;obtain⟨a1',a2',rfl,k1'⟩:=hdL_inv h;obtain⟨rfl,k2'⟩:=pA_inv k1';obtain⟨a3',a4',rfl,k3'⟩:=hdL_inv k2';obtain⟨x0,rfl,k4'⟩:=iA_inv k3';obtain⟨rfl,k5'⟩:=endL_inv k4';obtain⟨o5',o6',rfl,k6'⟩:=hdL_inv k5';obtain⟨c7',c8',rfl,k7'⟩:=hdL_inv k6';obtain⟨x1,e',k8'⟩:=lA_inv k7';cases e';obtain⟨c9',c10',rfl,k9'⟩:=hdL_inv k8';obtain⟨x2,e',k10'⟩:=iA_inv k9';cases e';obtain⟨c11',c12',rfl,k11'⟩:=hdL_inv k10';obtain⟨x3,e',k12'⟩:=lA_inv k11';cases e';obtain⟨c13',c14',rfl,k13'⟩:=hdL_inv k12';obtain⟨x4,e',k14'⟩:=bA_inv k13';cases e';obtain⟨rfl,k15'⟩:=endL_inv k14';obtain⟨rfl,k16'⟩:=endL_inv k15'
 exact ent_of (lv:=(lv89 n hs)) (n:=n) (fn:=Tryz.f89) hE hM hV ⟨by kernel_rfl,by kernel_rfl,⟨b89,by kernel_rfl,by kernel_rfl⟩,Nat.le_of_ble_eq_true (by kernel_rfl),by kernel_rfl⟩ (fun body hb=>by
  obtain rfl:b89=body:=congrArg (fun o=>o.getD Code.skip) hb;exact LvC_of (l:= [(false,cl89_3)]) (by kernel_rfl) (all_cons (PcL (by kernel_rfl) (ol89_3 n hs hV)) (all_nil))) (fun K=>by kernel_rfl) h0
theorem ok99 (n:Nat) (hs:Hd) (hV:EnvOK G.P (E n hs 76)):Ent G.P 99 (sp99 (formula_parser_signed.g n hs.h89 hs.h99)):=fun args objs K r h=>by
 have h0:=h;obtain⟨a1',a2',rfl,k1'⟩:=hdL_inv h;obtain⟨rfl,k2'⟩:=pA_inv k1';obtain⟨rfl,k3'⟩:=endL_inv k2';obtain⟨o3',o4',rfl,k4'⟩:=hdL_inv k3';obtain⟨c5',c6',rfl,k5'⟩:=hdL_inv k4';obtain⟨x0,e',k6'⟩:=lA_inv k5';cases e';obtain⟨c7',c8',rfl,k7'⟩:=hdL_inv k6';obtain⟨x1,e',k8'⟩:=iA_inv k7';cases e';obtain⟨c9',c10',rfl,k9'⟩:=hdL_inv k8';obtain⟨x2,e',k10'⟩:=lA_inv k9';cases e';obtain⟨c11',c12',rfl,k11'⟩:=hdL_inv k10';obtain⟨x3,e',k12'⟩:=bA_inv k11';cases e';obtain⟨rfl,k13'⟩:=endL_inv k12';obtain⟨rfl,k14'⟩:=endL_inv k13'
 exact ent_of (lv:=noLv) (n:=n) (fn:=Tryz.f99) hE hM hV ⟨by kernel_rfl,by kernel_rfl,⟨b99,by kernel_rfl,by kernel_rfl⟩,Nat.le_of_ble_eq_true (by kernel_rfl),by kernel_rfl⟩ (fun body hb=>by
  obtain rfl:b99=body:=congrArg (fun o=>o.getD Code.skip) hb;exact LvC_of (l:= []) (by kernel_rfl) (all_nil)) (fun K=>by kernel_rfl) h0
end Go.Proofs.YtcfoebkbahpnaaaGreat.Ab

/- What scope.Right comes to. -/
set_option linter.unusedVariables false
set_option linter.unusedSimpArgs false
namespace Go.Proofs.YtcfoebkbahpnaaaGreat.Ab
open Go Go.Proofs.YtcfoebkbahpnaaaGreat

theorem cells_l (row:List TermS) {n:Nat} (hn:Fuel n) (hr:rowLt n row) (a b c:RW) (x y:Int) (k4:RW→Int→Int→RW→RW→Option R) (kr:Bool→Option R): ∀ (r:List TermS) (j m:Nat),row.drop j=r→r.length<m→
 scope_table.l15 n m a x y (row.map eTerm) (row.length:Int) (j:Int) b c k4 kr=bif r.all cellV then k4 a x y b c else kr false
 |r,j,0,hd,hm=>by omega
 | [],j,m+1,hd,hm=>by
  have:=len_drop hd;rw[scope_table.l15];simp only[bifd];rw[if_neg (by omega)];rfl
 |d::r,j,m+1,hd,hm=>by
  obtain⟨hg,hi,hr',_⟩:=get_drop hd;have:=hn.2;have:=hr.1;(have e: ∀ a b:Int,(a==b)=decide (a=b):=fun a b=>rfl);rw[scope_table.l15];simp only[bifn,bifd2,bifd,List.length_map,Int.toNat_natCast];rw[if_pos (by omega),if_pos (by omega),rd_term hg,check_t d hn (hr.2 d (List.mem_of_getElem? hg)),List.all_cons,wr_succ (by omega),cells_l row hn hr a b c x y k4 kr r (j+1) m hr' (by simpa using hm)];rw[show cellV d=(okTm (T d) && !(decide (d.f0=3)) && !(decide (d.f0=4)))from rfl];cases okTm (T d)with
  |false=>rfl
  |true=>by_cases h3:d.f0=3<;>by_cases h4:d.f0=4<;>simp[h3,h4]
theorem rows_l (vars:RW) (vn:Nat) (hv:vars.length=vn) (rows:List (List TermS)) {n:Nat} (hn:Fuel n) (hl:rows.length<n) (hr: ∀ r ∈ rows,rowLt n r) (c:RW) (k2:Option R) (kr:Bool→Option R): ∀ (r:List (List TermS)) (i m:Nat),rows.drop i=r→r.length<m→
 scope_table.l10 n m (rows.map eRow) (rows.length:Int) (i:Int) vars c k2 kr=bif r.all (rowV vn)then k2 else kr false
 |r,i,0,hd,hm=>by omega
 | [],i,m+1,hd,hm=>by
  have:=len_drop hd;rw[scope_table.l10];simp only[bifd];rw[if_neg (by omega)];rfl
 |d::r,i,m+1,hd,hm=>by
  obtain⟨hg,hi,hr',_⟩:=get_drop hd;have:=hn.2;have hd':=hr d (List.mem_of_getElem? hg);rw[scope_table.l10];simp only[bifn,bifd2,bifd,List.length_map,Int.toNat_natCast];rw[if_pos (by omega),if_pos (by omega),rd_row hg,List.length_map,hv,List.all_cons];unfold rowV;by_cases hlen:d.length=vn
  ·rw[if_pos (by omega)];have h:=cells_l d hn hd' (rows.map eRow) vars c (rows.length:Int) (i:Int) (fun l16 i11 i12 l17 l18=>scope_table.l10 n m l16 i11 (wr (i12+(1:Int))) l17 l18 k2 kr) kr d 0 n rfl hd'.1;rw[show((0:Nat):Int)=0 from rfl]at h;rw[h,show(d.length==vn)=true from beq_iff_eq.2 hlen,wr_succ (by omega),rows_l vars vn hv rows hn hl hr c k2 kr r (i+1) m hr' (by simpa using hm)];cases d.all cellV<;>rfl
  rw[if_neg (by omega),show(d.length==vn)=false from beq_eq_false_iff_ne.2 hlen];rfl
theorem srow_take (l:List ByteArray) (i:Nat):(srow l).take i=srow (l.take i):=by simp[srow,List.map_take]
theorem names_l (vars:List ByteArray) {n:Nat} (hn:Fuel n) (hl:vars.length<n) (hv: ∀ s ∈ vars,s.size<n) (c:RW) (k0:RW→RW→Option R) (kr:Bool→Option R): ∀ (r:List ByteArray) (i m:Nat),vars.drop i=r→r.length<m→
 scope_table.l4 n m (srow vars) (vars.length:Int) (i:Int) (srow vars) c k0 kr=bif nmOK (TB (vars.take i)) (TB r)then k0 (srow vars) c else kr false
 |r,i,0,hd,hm=>by omega
 | [],i,m+1,hd,hm=>by
  have:=len_drop hd;rw[scope_table.l4];simp only[bifd];rw[if_neg (by omega)];rfl
 |d::r,i,m+1,hd,hm=>by
  obtain⟨hg,hi,hr',ht⟩:=get_drop hd;have:=hn.2;have:=hn.1;have hs:=hv d (List.mem_of_getElem? hg);have hlen:(srow vars).length=vars.length:=(by simp[srow]);rw[scope_table.l4];simp only[bifn,bifd2,bifd,hlen,Int.toNat_natCast,List.drop_zero,srow_take];rw[if_pos (by omega),if_pos (by omega),rd_s_ok hg,isName_g d (by omega) (by omega),if_pos (by omega),contains_g (vars.take i) (by rw[List.length_take];omega) (by omega),wr_succ (by omega),names_l vars hn hl hv c k0 kr r (i+1) m hr' (by simpa using hm)];rw[show TB (d::r)=d.data.toList::TB r from rfl,nmOK,ht,show TB (vars.take i++ [d])=TB (vars.take i)++ [d.data.toList]by simp[TB]];cases okName d.data.toList<;>cases (TB (vars.take i)).contains d.data.toList<;>rfl
theorem tabV_g (vars:List ByteArray) (rows:List (List TermS)) {n:Nat} (hn:Fuel n) (hl:vars.length<n) (hv: ∀ s ∈ vars,s.size<n) (hl':rows.length<n) (hr: ∀ r ∈ rows,rowLt n r) (K:Bool→Option R):
 scope_table.g n (srow vars) (rows.map eRow) K=K (tabV vars rows):=by
 have hlen:(srow vars).length=vars.length:=(by simp[srow]);unfold scope_table.g tabV;rw[bifd,bifd,hlen,List.length_map];by_cases h1:vars.length≤32
 ·rw[if_neg (by omega),decide_eq_true h1,Bool.true_and];by_cases h2:rows.length≤64
  ·rw[if_neg (by omega),decide_eq_true h2,Bool.true_and];have h:=names_l vars hn hl hv (rows.map eRow) (fun l6 l7=>scope_table.l10 n n l7 (l7.length:Int) 0 l6 l7 (K true) K) K vars 0 n rfl hl;rw[show((0:Nat):Int)=0 from rfl]at h;rw[h];have h':=rows_l (srow vars) vars.length hlen rows hn hl' hr (rows.map eRow) (K true) K rows 0 n rfl hl';rw[show((0:Nat):Int)=0 from rfl]at h';simp only[List.length_map];rw[h'];rw[show TB (vars.take 0)= []from rfl];cases nmOK [] (TB vars)<;>cases rows.all (rowV vars.length)<;>rfl
  rw[if_pos (by omega),decide_eq_false h2];rfl
 rw[if_pos (by omega),decide_eq_false h1];rfl
end Go.Proofs.YtcfoebkbahpnaaaGreat.Ab

-- PRINTED BY print.sh 35421559b90ae4d0a3588c463048766b98c2df88dd9212a6774a882060cdf62d: not written by this session
-- PRINTED WORDS (module Derived/Print/More.lean): go-gate-2's additions: an AI agent of Go's test side, Tue Nov 17 2026; no person has read it. Lean checks it.
namespace Go.Proofs.YtcfoebkbahpnaaaGreatW.PrintMore
open Go.RowKit Go.Proofs.YtcfoebkbahpnaaaGreatW.PrintWords
namespace Kd
open Go.Proofs.YtcfoebkbahpnaaaGreatW.PrintWords.Kd
end Kd

namespace Kd
open Go.Proofs.YtcfoebkbahpnaaaGreatW.PrintWords.Kd
section
variable {α : Type} {d : Kd α} {e base g N : Nat} {ok : Nat → Prop} {W w1 : World} {u v : Value} {xs : List α}
end
end Kd
end Go.Proofs.YtcfoebkbahpnaaaGreatW.PrintMore
namespace Go.Proofs.YtcfoebkbahpnaaaGreatW.PrintWords
open Go.RowKit
section
variable {P : Program} {ops : Array Oper} {rest : List Oper} {o : Oper} {a : Act} {Q : Exit → Act → World → Prop} {W : World}
/-- The operation is a builtin over these places. -/
theorem gate_builtin {b:Builtin} {xs:Array Operand} {ts:Array TypeId} (_ho:o.op= .call {callee:= .builtin b,args:=xs,argTypes:=ts}) (h:wpList P ops Q (o::rest) a W):wpList P ops Q (o::rest) a W:=h
end
namespace Kd
section
variable {α : Type} {d : Kd α} {e base : Nat} {ok : Nat → Prop} {W w1 : World} {v : Value} {xs : List α}
end
section
variable {α : Type} {d : Kd α} {e base g n cap : Nat} {ok oki okp : Nat → Prop} {W : World} {xs : List α} {i : Int} {c : List Value}
end
section
variable {α : Type} {d : Kd α} {e base b b' g N : Nat} {ok ok1 : Nat → Prop} {W W2 w1 : World} {u v : Value} {xs ys : List α} {S : Nat → Prop}
end
end Kd
end Go.Proofs.YtcfoebkbahpnaaaGreatW.PrintWords
namespace Go.Proofs.YtcfoebkbahpnaaaGreatW.PrintWords
open Go.RowKit
namespace Kd
/-- A row that is only read, told by its value: its form, its length, what it leads to (in ok). e and base say nothing; they make it as the others are. -/
def V {α : Type} (d : Kd α) (_e : Nat) (W : World) (_base : Nat) (ok : Nat → Prop) (v : Value) (xs : List α) : Prop := ∃ A c, v = .slice A xs.length c ∧ xs.length ≤ c ∧ F d W ok A xs.length xs
section
variable {α β : Type} {d : Kd α} {e base base' n m c g N' lo hi : Nat} {ok ok' S : Nat → Prop} {w W w1 : World} {A : Option Addr} {ad : Addr} {u v v1 : Value} {xs : List α}
end
end Kd
end Go.Proofs.YtcfoebkbahpnaaaGreatW.PrintWords

/- What scope.Needs and scope.Right come to. -/
set_option linter.unusedVariables false
set_option linter.unusedSimpArgs false
namespace Go.Proofs.YtcfoebkbahpnaaaGreat.Ab
open Go Go.Proofs.YtcfoebkbahpnaaaGreat

theorem needs_g (i1:Int) (l1 l2 l3 l4:RW) (s1:ByteArray) (p1:Bool) (K:Int→Option R):scope_Needs.g i1 l1 l2 l3 l4 s1 p1 K=K (opNeeds i1):=by
 unfold scope_Needs.g;simp only[bifd];by_cases h:1≤i1∧i1≤9
 ·have:i1=1∨i1=2∨i1=3∨i1=4∨i1=5∨i1=6∨i1=7∨i1=8∨i1=9:=(by omega);rcases this with rfl|rfl|rfl|rfl|rfl|rfl|rfl|rfl|rfl<;>rfl
 simp only[if_neg (show ¬ i1=1 by omega),if_neg (show ¬ i1=2 by omega),if_neg (show ¬ i1=3 by omega),if_neg (show ¬ i1=4 by omega),if_neg (show ¬ i1=5 by omega),if_neg (show ¬ i1=6 by omega),if_neg (show ¬ i1=7 by omega),if_neg (show ¬ i1=8 by omega),if_neg (show ¬ i1=9 by omega)];unfold opNeeds;rw[if_neg (by omega),if_neg (by omega),if_neg (by omega)]
theorem last_g (o:OpS) {n:Nat} (hn:Fuel n) (ho:o.lt n) (kr:Bool→Option R):
 (if o.f0=1 then scope_basic.g n (o.f1.map eTri) fun p=>kr p else if o.f0=2 then scope_table.g n (srow o.f2.f0) (o.f2.f1.map eRow) fun p=>kr p else if o.f0=8 then term_IsName.g n o.f4 fun p=>kr p
  else if o.f0=9 then term_Check.g n 1 o.f4 ⟨#[]⟩ ⟨#[]⟩ fun i=>kr (decide (i=0))else scope_Needs.g o.f0 (o.f1.map eTri) (srow o.f2.f0) (o.f2.f1.map eRow) (o.f3.map ePart) o.f4 o.f5 fun i=>kr (decide (0≤i)))=kr (lastOK o):=by
 have:=hn.1;have:=hn.2;have:=ho.i;unfold lastOK;rw[basic_g _ ho.a hn ho.b,tabV_g _ _ hn ho.c ho.d ho.e ho.f,isName_g _ (by omega) (by omega),check_g 1 o.f4 ⟨#[]⟩ ⟨#[]⟩ (by omega) ho.i (by show 0<n;omega) (by omega),needs_g];(repeat' split);all_goals first|rfl|(rename_i hq;simp[hq])
theorem j5_g (o:OpS) {n:Nat} (hn:Fuel n) (ho:o.lt n) (kr:Bool→Option R):
 scope_Right.j5 n o.f0 (o.f1.map eTri) (srow o.f2.f0) (o.f2.f1.map eRow) (o.f3.map ePart) o.f4 o.f5 kr=kr (formOK (formF o) o && lastOK o):=by
 have hl:=last_g o hn ho kr;unfold scope_Right.j5;simp only[fcheck_g _ hn ho.h,bifn,bifd,List.length_map,hl];unfold formF formOK;(have e: ∀ a b:Int,(a==b)=decide (a=b):=fun a b=>rfl);simp only[e];by_cases h7:o.f0=7
 ·by_cases hf:fcheck o.f3=0<;>simp[h7,hf]
 by_cases h8:o.f0=8
 ·by_cases hf:fcheck o.f3=0<;>simp[h8,hf]
 by_cases h5:o.f0=5
 ·by_cases hp:o.f3.length=0
  ·simp[h5,hp]
  have:(0:Int)<(o.f3.length:Int):=(by omega);by_cases hf:fcheck o.f3=0<;>simp[h5,hf,this,show 0<o.f3.length by omega]
 by_cases hp:o.f3.length=0
 ·simp[h5,h7,h8,hp]
 have:(0:Int)<(o.f3.length:Int):=(by omega);simp[h5,h7,h8,this,show 0<o.f3.length by omega,show(o.f3.length==0)=false from beq_eq_false_iff_ne.2 hp]
theorem j3_g (o:OpS) {n:Nat} (hn:Fuel n) (ho:o.lt n) (kr:Bool→Option R):
 scope_Right.j3 n o.f0 (o.f1.map eTri) (srow o.f2.f0) (o.f2.f1.map eRow) (o.f3.map ePart) o.f4 o.f5 kr=kr (!silentB o && (formOK (formF o) o && lastOK o)):=by
 have hj:=j5_g o hn ho kr;unfold scope_Right.j3;simp only[bifn,bifd,strEq_nil,hj];unfold silentB;by_cases h9:o.f0=9
 ·rw[if_pos h9,if_pos h9];split<;>rfl
 simp only[if_neg h9];cases o.f5 with
 |true=>rfl
 |false=>
  by_cases h8:o.f0=8
  ·simp[h8]
  simp only[if_neg h8];cases o.f4.data.toList.isEmpty<;>rfl
theorem opOK_g (o:OpS) {n:Nat} (hn:Fuel n) (ho:o.lt n) (K:Bool→Option R):
 scope_Right.g n o.f0 (o.f1.map eTri) (srow o.f2.f0) (o.f2.f1.map eRow) (o.f3.map ePart) o.f4 o.f5 K=K (opOK o):=by
 have hj:=j3_g o hn ho K;have:=hn.2;have:=ho.c;have:=ho.e;have hs:(srow o.f2.f0).length=o.f2.f0.length:=(by simp[srow]);unfold scope_Right.g;simp only[bifn,bifd,List.length_map,hs,hj];rw[show wr ((o.f2.f0.length:Int)+(o.f2.f1.length:Int))=((o.f2.f0.length+o.f2.f1.length:Nat):Int)from by rw[wr_eq _ (by omega) (by omega)];omega];unfold opOK bareB;(have e: ∀ a b:Int,(a==b)=decide (a=b):=fun a b=>rfl);simp only[e];by_cases h1:o.f0=1
 ·by_cases q:0<o.f2.f0.length+o.f2.f1.length
  ·simp[h1,q,show(0:Int)<(o.f2.f0.length:Int)+(o.f2.f1.length:Int)by omega]
  simp[h1,q,show ¬(0:Int)<(o.f2.f0.length:Int)+(o.f2.f1.length:Int)by omega]
 by_cases p:0<o.f1.length
 ·simp[h1,p,show(0:Int)<(o.f1.length:Int)by omega]
 by_cases h2:o.f0=2
 ·simp[h2,p,show ¬(0:Int)<(o.f1.length:Int)by omega]
 by_cases q:0<o.f2.f0.length+o.f2.f1.length
 ·simp[h1,h2,p,q,show ¬(0:Int)<(o.f1.length:Int)by omega,show(0:Int)<(o.f2.f0.length:Int)+(o.f2.f1.length:Int)by omega]
 simp[h1,h2,p,q,show ¬(0:Int)<(o.f1.length:Int)by omega,show ¬(0:Int)<(o.f2.f0.length:Int)+(o.f2.f1.length:Int)by omega]
end Go.Proofs.YtcfoebkbahpnaaaGreat.Ab
