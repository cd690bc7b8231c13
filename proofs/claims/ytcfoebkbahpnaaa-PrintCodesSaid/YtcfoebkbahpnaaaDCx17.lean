import Derived.Test.YtcfoebkbahpnaaaDCx0
namespace Go.Proofs.Ytcfoebkbahpnaaa.L
open Go.RowKit Go.Proofs.YtcfoebkbahpnaaaW.PrintWords Go.Proofs.YtcfoebkbahpnaaaW.PrintLast Go.Proofs.YtcfoebkbahpnaaaW.PrintMore
attribute [local go_sem] max2_int min2_int max_two min_two max_three min_three max_four min_four
set_option linter.unusedVariables false
set_option maxHeartbeats 8000000
set_option maxRecDepth 100000
set_option linter.unusedSimpArgs false
mutual
def scope_Needs.j0 : Nat → Int → Bool → Option (Int)
  | 0, _, _ => none
  | k + 1, x4, x5 => if x5 = true then (some 0) else (if x4 = 7 then (scope_Needs.j1 k x4 (x4 == 7)) else (if x4 = 8 then (scope_Needs.j1 k x4 (x4 == 8)) else (scope_Needs.j1 k x4 (x4 == 9))))
def scope_Needs.j1 : Nat → Int → Bool → Option (Int)
  | 0, _, _ => none
  | k + 1, x4, x8 => if x8 = true then (some 1) else (if x4 = 3 then (some 2) else (if x4 = 4 then (some 2) else (if x4 = 5 then (some 2) else (if x4 = 6 then (some 2) else (some (-1))))))
end
def scope_Needs.f (k : Nat) (a0_0 : Int) (l0_1 : List (S53)) (l0_2 : List ByteArray) (l0_3 : List (List (S50))) (l0_4 : List (S112)) (a0_5 : ByteArray) (a0_6 : Bool) : Option (Int) := if a0_0 = 1 then (scope_Needs.j0 k a0_0 (a0_0 == 1)) else (scope_Needs.j0 k a0_0 (a0_0 == 2))
theorem scope_Needs.calls (k:Nat) (a0_0:Int) (A0_1:Option Addr) (c0_1:Nat) (l0_1:List (S53)) (A0_2:Option Addr) (c0_2:Nat) (l0_2:List ByteArray) (A0_3:Option Addr) (c0_3:Nat) (l0_3:List (List (S50))) (A0_4:Option Addr) (c0_4:Nat) (l0_4:List (S112)) (a0_5:ByteArray) (a0_6:Bool) (r:Int) (w:World) (hr0_1:Kd.C k53 w A0_1 l0_1.length l0_1) (hc0_1:l0_1.length≤c0_1) (hr0_2:Kd.C Kd.string w A0_2 l0_2.length l0_2) (hc0_2:l0_2.length≤c0_2) (hr0_3:Kd.C (Kd.slice 50 k50) w A0_3 l0_3.length l0_3) (hc0_3:l0_3.length≤c0_3) (hr0_4:Kd.C k112 w A0_4 l0_4.length l0_4) (hc0_4:l0_4.length≤c0_4) (h:scope_Needs.f k a0_0 l0_1 l0_2 l0_3 l0_4 a0_5 a0_6=some r):
 Calls Try.prog 54 #[.agg #[.int .i64 a0_0,.slice A0_1 l0_1.length c0_1,.slice A0_2 l0_2.length c0_2,.slice A0_3 l0_3.length c0_3,.slice A0_4 l0_4.length c0_4,.string a0_5,.bool a0_6]] w fun e w'=>e= .returned (.int .i64 r)∧Below w.heap.size w w':=by
 have HR0_1:=zA hr0_1;have HC0_1:=zA hc0_1;clear hr0_1 hc0_1;have HR0_2:=zA hr0_2;have HC0_2:=zA hc0_2;clear hr0_2 hc0_2;have HR0_3:=zA hr0_3;have HC0_3:=zA hc0_3;clear hr0_3 hc0_3;have HR0_4:=zA hr0_4;have HC0_4:=zA hc0_4;clear hr0_4 hc0_4;have HB:=zA (Below.refl w.heap.size w);have H:(if a0_0=1 then(scope_Needs.j0 k a0_0 (a0_0==1))else(scope_Needs.j0 k a0_0 (a0_0==2)))=some r:=h;clear h;have HC2:=zA H;clear H;go_enter Try.func54,Try.ntmps54;go_upto_if 5 with (((with_reducible refine gate_dst (N:=1) rfl ?_);refine zE #[.int .i64 a0_0,.slice A0_1 l0_1.length c0_1,.slice A0_2 l0_2.length c0_2,.slice A0_3 l0_3.length c0_3,.slice A0_4 l0_4.length c0_4,.string a0_5,.bool a0_6] 45 ?_;intro gb282 hg w3 hbox hb;have BK282:=zA hbox;have GW282:=zZ HB.out hg;replace HB:=zS HB.out hb;clear hb hbox hg;have hcz4_0:=zc7_0 BK282.out))
 go_cut [5] (fun v5 wc=> ∃ (kq:Nat) (x5_1:Bool),v5= .bool x5_1∧Aside0 (scope_Needs.j0 kq a0_0 x5_1=some r)∧Aside0 (kq≤k)∧Aside0 (wc.heap[gb282]? =some (.cells #[.int .i64 a0_0,(.slice A0_1 l0_1.length c0_1),(.slice A0_2 l0_2.length c0_2),(.slice A0_3 l0_3.length c0_3),(.slice A0_4 l0_4.length c0_4),.string a0_5,.bool a0_6] 45 (0,0)))∧Aside0 (Below w.heap.size w wc));case first=>
  have H:=HC2.out;clear HC2;obtain⟨c5b0,H⟩|⟨c5b0,H⟩:=zb H
  ·(rw[c5b0]);have H':=zA H;clear H;go_wp2;go_meet;case rel=>exact⟨_,((a0_0==1)),(by(simp[*];done)),H',⟨by omega⟩,⟨by exact BK282.out⟩,⟨HB.out⟩⟩
  ·(rw[c5b0]);have H':=zA H;clear H;go_wp2;go_meet;case rel=>exact⟨_,((a0_0==2)),(by rfl),H',⟨by omega⟩,⟨by exact BK282.out⟩,⟨HB.out⟩⟩
 case rest=>
  clear HC2;(try clear hcz4_0);obtain⟨kq,x5_1,rfl,HA,HJ1,BK282,HB⟩:=hcut;cases kq with
  |zero=>exact absurd HA.out (by simp[scope_Needs.j0])
  |succ kj1=>
   have H:=HA.out;clear HA;simp only[scope_Needs.j0]at H;by_cases c6:x5_1=true
   ·subst c6;rw[if_pos rfl]at H;obtain rfl:=Option.some.inj H;go_wp2;go_ret;exact⟨by rfl,HB.out⟩
   ·replace c6:=Bool.eq_false_iff.mpr c6;subst c6;rw[if_neg (show ¬(false=true)by decide)]at H;have HC7:=zA H;clear H;go_upto_if 8 with (fail)
    go_cut [8] (fun v8 wc=> ∃ (kq:Nat) (x8_6:Bool),v8= .bool x8_6∧Aside0 (scope_Needs.j1 kq a0_0 x8_6=some r)∧Aside0 (kq≤kj1)∧Aside0 (wc.heap[gb282]? =some (.cells #[.int .i64 a0_0,(.slice A0_1 l0_1.length c0_1),(.slice A0_2 l0_2.length c0_2),(.slice A0_3 l0_3.length c0_3),(.slice A0_4 l0_4.length c0_4),.string a0_5,.bool a0_6] 45 (0,0)))∧Aside0 (Below w.heap.size w wc));case first=>
     have H:=HC7.out;clear HC7;obtain⟨c8b0,H⟩|⟨c8b0,H⟩:=zb H
     ·(rw[c8b0]);have H':=zA H;clear H;go_wp2;go_meet;case rel=>exact⟨_,((a0_0==7)),(by(simp[*];done)),H',⟨by have:=HJ1.out;omega⟩,⟨by exact BK282.out⟩,⟨HB.out⟩⟩
     ·(rw[c8b0]);obtain⟨c9b0,H⟩|⟨c9b0,H⟩:=zb H
      ·have H':=zA H;clear H;go_wp2;go_meet;case rel=>exact⟨_,((a0_0==8)),(by(simp[*];done)),H',⟨by have:=HJ1.out;omega⟩,⟨by exact BK282.out⟩,⟨HB.out⟩⟩
      ·have H':=zA H;clear H;go_wp2;go_meet;case rel=>exact⟨_,((a0_0==9)),(by rfl),H',⟨by have:=HJ1.out;omega⟩,⟨by exact BK282.out⟩,⟨HB.out⟩⟩
    case rest=>
     clear HC7;obtain⟨kq,x8_6,rfl,HA,HJ6,BK282,HB⟩:=hcut;cases kq with
     |zero=>exact absurd HA.out (by simp[scope_Needs.j1])
     |succ kj6=>
      have H:=HA.out;clear HA;simp only[scope_Needs.j1]at H;by_cases c10:x8_6=true
      ·subst c10;rw[if_pos rfl]at H;obtain rfl:=Option.some.inj H;go_wp2;go_ret;exact⟨by rfl,HB.out⟩
      ·replace c10:=Bool.eq_false_iff.mpr c10;subst c10;rw[if_neg (show ¬(false=true)by decide)]at H;obtain⟨c11b0,H⟩|⟨c11b0,H⟩:=zb H
       ·obtain rfl:=Option.some.inj H;go_wp2;go_ret;exact⟨by rfl,HB.out⟩
       ·obtain⟨c12b0,H⟩|⟨c12b0,H⟩:=zb H
        ·obtain rfl:=Option.some.inj H;go_wp2;go_ret;exact⟨by rfl,HB.out⟩
        ·obtain⟨c13b0,H⟩|⟨c13b0,H⟩:=zb H
         ·obtain rfl:=Option.some.inj H;go_wp2;go_ret;exact⟨by rfl,HB.out⟩
         ·obtain⟨c14b0,H⟩|⟨c14b0,H⟩:=zb H
          ·obtain rfl:=Option.some.inj H;go_wp2;go_ret;exact⟨by rfl,HB.out⟩
          ·obtain rfl:=Option.some.inj H;go_wp2;go_ret;exact⟨by rfl,HB.out⟩
def term_iriByte.f (a0 : Int) : Option (Bool) := if a0 = 60 then (some false) else (if a0 = 62 then (some false) else (if a0 = 34 then (some false) else (if a0 = 123 then (some false) else (if a0 = 125 then (some false) else (if a0 = 124 then (some false) else (if a0 = 94 then (some false) else (if a0 = 96 then (some false) else (if a0 = 92 then (some false) else (if a0 ≥ 33 then (some (decide (a0 ≤ 126))) else (some false))))))))))
theorem term_iriByte.calls (a0:Int) (r:Bool) (w:World) (h:term_iriByte.f a0=some r):
 Calls Try.prog 67 #[.int .u8 a0] w fun e w'=>e= .returned (.bool r)∧Drawn0 w w':=by
 have H:(if a0=60 then(some false)else(if a0=62 then(some false)else(if a0=34 then(some false)else(if a0=123 then(some false)else(if a0=125 then(some false)else(if a0=124 then(some false)else(if a0=94 then(some false)else(if a0=96 then(some false)else(if a0=92 then(some false)else(if a0≥33 then(some (decide (a0≤126)))else(some false)))))))))))=some r:=h;clear h;obtain⟨c2b0,H⟩|⟨c2b0,H⟩:=zb H
 ·obtain rfl:=Option.some.inj H;go_enter Try.func67,Try.ntmps67;go_wp2;go_ret;exact⟨by rfl,by repeat(exact Drawn0.refl _)⟩
 ·obtain⟨c3b0,H⟩|⟨c3b0,H⟩:=zb H
  ·obtain rfl:=Option.some.inj H;go_enter Try.func67,Try.ntmps67;go_wp2;go_ret;exact⟨by rfl,by repeat(exact Drawn0.refl _)⟩
  ·obtain⟨c4b0,H⟩|⟨c4b0,H⟩:=zb H
   ·obtain rfl:=Option.some.inj H;go_enter Try.func67,Try.ntmps67;go_wp2;go_ret;exact⟨by rfl,by repeat(exact Drawn0.refl _)⟩
   ·obtain⟨c5b0,H⟩|⟨c5b0,H⟩:=zb H
    ·obtain rfl:=Option.some.inj H;go_enter Try.func67,Try.ntmps67;go_wp2;go_ret;exact⟨by rfl,by repeat(exact Drawn0.refl _)⟩
    ·obtain⟨c6b0,H⟩|⟨c6b0,H⟩:=zb H
     ·obtain rfl:=Option.some.inj H;go_enter Try.func67,Try.ntmps67;go_wp2;go_ret;exact⟨by rfl,by repeat(exact Drawn0.refl _)⟩
     ·obtain⟨c7b0,H⟩|⟨c7b0,H⟩:=zb H
      ·obtain rfl:=Option.some.inj H;go_enter Try.func67,Try.ntmps67;go_wp2;go_ret;exact⟨by rfl,by repeat(exact Drawn0.refl _)⟩
      ·obtain⟨c8b0,H⟩|⟨c8b0,H⟩:=zb H
       ·obtain rfl:=Option.some.inj H;go_enter Try.func67,Try.ntmps67;go_wp2;go_ret;exact⟨by rfl,by repeat(exact Drawn0.refl _)⟩
       ·obtain⟨c9b0,H⟩|⟨c9b0,H⟩:=zb H
        ·obtain rfl:=Option.some.inj H;go_enter Try.func67,Try.ntmps67;go_wp2;go_ret;exact⟨by rfl,by repeat(exact Drawn0.refl _)⟩
        ·obtain⟨c10b0,H⟩|⟨c10b0,H⟩:=zb H
         ·obtain rfl:=Option.some.inj H;go_enter Try.func67,Try.ntmps67;go_wp2;go_ret;exact⟨by rfl,by repeat(exact Drawn0.refl _)⟩
         ·by_cases c11:a0≥33
          ·rw[if_pos c11]at H;have c11b0:decide (33≤a0)=true:=decide_eq_true c11;clear c11;obtain rfl:=Option.some.inj H;go_enter Try.func67,Try.ntmps67;go_wp2;go_ret;exact⟨by rfl,by repeat(exact Drawn0.refl _)⟩
          ·rw[if_neg c11]at H;have c11b0:decide (33≤a0)=false:=decide_eq_false c11;clear c11;obtain rfl:=Option.some.inj H;go_enter Try.func67,Try.ntmps67;go_wp2;go_ret;exact⟨by rfl,by repeat(exact Drawn0.refl _)⟩
def iriB (c : UInt8) : Bool := term_iriByte.f (c.toNat : Int) == some true
theorem iriByte_tot (x:Int): ∃ r,term_iriByte.f x=some r:=by
 unfold term_iriByte.f;(repeat' split);all_goals exact⟨_,rfl⟩
theorem iriByte_at (c:UInt8):term_iriByte.f (c.toNat:Int)=some (iriB c):=by
 obtain⟨r,hr⟩:=iriByte_tot (c.toNat:Int);unfold iriB;rw[hr];cases r<;>rfl
theorem iriB_low {c:UInt8} (h:iriB c=true):c.toNat<128:=by
 unfold iriB at h;have h1:=beq_iff_eq.1 h;unfold term_iriByte.f at h1;(repeat' split at h1);all_goals first|(simp at h1;done)|(simp only[Option.some.injEq,decide_eq_true_eq]at h1;omega)
def term_isIri.f (a0 : ByteArray) : Option (Bool) := some (decide (0 < a0.size) && decide (a0.size ≤ 4096) && a0.data.toList.all iriB)
theorem isIri_bt (s:ByteArray) (pos:Nat) (h:pos<s.size):bt s (pos:Int)=((s.data.toList[pos]'(by rw[Array.length_toList];exact h)).toNat:Int):=by
 unfold bt;rw[dif_pos (by simpa using h)];simp;rfl
set_option maxHeartbeats 2000000 in
theorem term_isIri.calls (a0:ByteArray) (r:Bool) (w:World) (h:term_isIri.f a0=some r):
 Calls Try.prog 43 #[.string a0] w fun e w'=>e= .returned (.bool r)∧Below w.heap.size w w':=by
 have hr:=Option.some.inj h;clear h;by_cases c0:a0.toList=([]:List UInt8)
 ·have e0:a0.size=0:=by
   have:a0.data.toList= []:=(by rw[← Lib.toList_data];exact c0);have h2:a0.data.toList.length=a0.size:=Array.length_toList;rw[this]at h2;simpa using h2.symm
  have c0b:(a0.toList==([]:List UInt8))=true:=beq_iff_eq.mpr c0;have c0c:a0.toList.isEmpty=true:=(by simpa using c0);(obtain rfl:false=r:=by rw[← hr];simp[e0]);clear hr c0;go_enter Try.func43,Try.ntmps43;go_wp2;go_ret;exact⟨rfl,Below.refl _ _⟩
 ·have e0:0<a0.size:=by
   rcases Nat.eq_zero_or_pos a0.size with h0|h0
   ·exfalso;apply c0;have h2:a0.data.toList.length=a0.size:=Array.length_toList;have h3:a0.data.toList= []:=List.length_eq_zero_iff.1 (h2.trans h0);rw[Lib.toList_data];exact h3
   ·exact h0
  have c0b:(a0.toList==([]:List UInt8))=false:=beq_eq_false_iff_ne.mpr c0;have c0c:a0.toList.isEmpty=false:=(by simpa using c0);have E0:=zA e0;clear c0 e0;by_cases c1:(a0.size:Int)>4096
  ·have c1b:decide (4096<(a0.size:Int))=true:=decide_eq_true c1;have c1c:decide (4096<a0.size)=true:=decide_eq_true (by omega);(obtain rfl:false=r:=by rw[← hr,decide_eq_false (show ¬ a0.size≤4096 by omega)];simp);clear hr c1;go_enter Try.func43,Try.ntmps43;go_wp2;go_ret;exact⟨rfl,Below.refl _ _⟩
  ·have c1b:decide (4096<(a0.size:Int))=false:=decide_eq_false c1;have c1c:decide (4096<a0.size)=false:=decide_eq_false (by omega);have hr':a0.data.toList.all iriB=r:=(by rw[← hr,decide_eq_true E0.out,decide_eq_true (show a0.size≤4096 by omega)];simp);have HR:=zA hr';clear hr hr' c1;go_enter Try.func43,Try.ntmps43;go_wp2;go_loopw [] (fun w'=> ∃ pos:Nat,w'.heap[w.heap.size]? =some (.stringIter a0 pos)∧Aside0 (Below w.heap.size w w')∧Aside0 (pos≤a0.size∧(a0.data.toList.take pos).all iriB=true)) (fun w'=>a0.size - w'.iterPos w.heap.size);(case atStart=>exact⟨0,World.iter_heap w a0 0,⟨(Below.refl _ _).alloc (Nat.le_refl _) _⟩,⟨Nat.zero_le _,rfl⟩⟩);case round=>
    obtain⟨pos,hit,HB,HP⟩:=hrel;have hpos:wr.iterPos w.heap.size=pos:=(by simp[World.iterPos,hit]);by_cases hp:pos<a0.size
    ·(have hnx:=fun ty=>Lib.run_next_any_at (P:=Try.prog) wr w.heap.size a0 pos ty hit hp);have hbt:=isIri_bt a0 pos hp;have hio:=iriByte_at (a0.data.toList[pos]'(by rw[Array.length_toList];exact hp));have p5:((0:Int)≤(pos:Int))=True:=eq_true (by omega);have q5:((pos:Int)<(a0.size:Int))=True:=eq_true (by omega);have hx5:=bt_at a0 (pos:Int);rw[hbt]at hx5;have hit2:=Lib.iterAt_heap wr w.heap.size a0 pos (pos+(Utf8.decode a0 pos).2) hit;cases hi:iriB (a0.data.toList[pos]'(by rw[Array.length_toList];exact hp))with
     |false=>
      rw[hi]at hio;go_wp2_with (refine(term_iriByte.calls _ false _ hio).mono ?_;rintro e w3 ⟨rfl,⟨m3,rfl⟩⟩);go_ret;have hf:r=false:=by
       rw[← HR.out,Bool.eq_false_iff];intro hall;have:=List.all_eq_true.1 hall _ (List.getElem_mem (show pos<a0.data.toList.length by rw[Array.length_toList];exact hp));rw[hi]at this;cases this
      refine⟨by rw[hf];rfl,?_⟩;exact Lib.below_iterAt HB.out (Nat.le_refl _) a0 _|>.trans ⟨rfl,rfl,rfl,Nat.le_refl _,fun _ _=>rfl⟩
     |true=>
      rw[hi]at hio;go_wp2_with (refine(term_iriByte.calls _ true _ hio).mono ?_;rintro e w3 ⟨rfl,⟨m3,rfl⟩⟩);have hlow:=iriB_low hi;have hdec:Utf8.decode a0 pos=((a0[pos]'hp).toNat,1):=decode_ascii a0 pos hp hlow;rw[hdec]at hit2 ⊢;go_roundw;case rel=>
       refine⟨pos+1,hit2,⟨Lib.below_iterAt HB.out (Nat.le_refl _) a0 _|>.trans ⟨rfl,rfl,rfl,Nat.le_refl _,fun _ _=>rfl⟩⟩,⟨by omega,?_⟩⟩;rw[List.take_add_one,List.all_append,HP.out.2,List.getElem?_eq_getElem (show pos<a0.data.toList.length by rw[Array.length_toList];exact hp)];simpa using hi
      case measure=>
       have h5:(wr.iterAt w.heap.size a0 (pos+1)).iterPos w.heap.size=pos+1:=(by simp only[World.iterPos,hit2]);(show a0.size - (wr.iterAt w.heap.size a0 (pos+1)).iterPos w.heap.size<a0.size - wr.iterPos w.heap.size);rw[h5,hpos];omega
    ·(have hnx:=fun ty=>Lib.run_next_end_at (P:=Try.prog) wr w.heap.size a0 pos ty hit hp);go_wp2;go_ret;have hpe:pos=a0.size:=Nat.le_antisymm HP.out.1 (Nat.not_lt.1 hp);refine⟨?_,HB.out⟩;have h2:=HP.out.2;rw[hpe,List.take_of_length_le (by rw[Array.length_toList];exact Nat.le_refl _),HR.out]at h2;rw[h2];rfl
def term_letter.f (a0 : Int) : Option (Bool) := if a0 ≥ 97 then (if a0 ≤ 122 then (some true) else (if a0 ≥ 65 then (some (decide (a0 ≤ 90))) else (some false))) else (if a0 ≥ 65 then (some (decide (a0 ≤ 90))) else (some false))
theorem term_letter.calls (a0:Int) (r:Bool) (w:World) (h:term_letter.f a0=some r):
 Calls Try.prog 90 #[.int .u8 a0] w fun e w'=>e= .returned (.bool r)∧Drawn0 w w':=by
 have H:(if a0≥97 then(if a0≤122 then(some true)else(if a0≥65 then(some (decide (a0≤90)))else(some false)))else(if a0≥65 then(some (decide (a0≤90)))else(some false)))=some r:=h;clear h;by_cases c2:a0≥97
 ·rw[if_pos c2]at H;have c2b0:decide (97≤a0)=true:=decide_eq_true c2;clear c2;obtain⟨c3b0,H⟩|⟨c3b0,H⟩:=zj H
  ·obtain rfl:=Option.some.inj H;go_enter Try.func90,Try.ntmps90;go_wp2;go_ret;exact⟨by rfl,by repeat(exact Drawn0.refl _)⟩
  ·by_cases c4:a0≥65
   ·rw[if_pos c4]at H;have c4b0:decide (65≤a0)=true:=decide_eq_true c4;clear c4;obtain rfl:=Option.some.inj H;go_enter Try.func90,Try.ntmps90;go_wp2;go_ret;exact⟨by rfl,by repeat(exact Drawn0.refl _)⟩
   ·rw[if_neg c4]at H;have c4b0:decide (65≤a0)=false:=decide_eq_false c4;clear c4;obtain rfl:=Option.some.inj H;go_enter Try.func90,Try.ntmps90;go_wp2;go_ret;exact⟨by rfl,by repeat(exact Drawn0.refl _)⟩
 ·rw[if_neg c2]at H;have c2b0:decide (97≤a0)=false:=decide_eq_false c2;clear c2;by_cases c5:a0≥65
  ·rw[if_pos c5]at H;have c5b0:decide (65≤a0)=true:=decide_eq_true c5;clear c5;obtain rfl:=Option.some.inj H;go_enter Try.func90,Try.ntmps90;go_wp2;go_ret;exact⟨by rfl,by repeat(exact Drawn0.refl _)⟩
  ·rw[if_neg c5]at H;have c5b0:decide (65≤a0)=false:=decide_eq_false c5;clear c5;obtain rfl:=Option.some.inj H;go_enter Try.func90,Try.ntmps90;go_wp2;go_ret;exact⟨by rfl,by repeat(exact Drawn0.refl _)⟩
def term_digit.f (a0 : Int) : Option (Bool) := if a0 ≥ 48 then (some (decide (a0 ≤ 57))) else (some false)
theorem term_digit.calls (a0:Int) (r:Bool) (w:World) (h:term_digit.f a0=some r):
 Calls Try.prog 91 #[.int .u8 a0] w fun e w'=>e= .returned (.bool r)∧Drawn0 w w':=by
 have H:(if a0≥48 then(some (decide (a0≤57)))else(some false))=some r:=h;clear h;by_cases c2:a0≥48
 ·rw[if_pos c2]at H;have c2b0:decide (48≤a0)=true:=decide_eq_true c2;clear c2;obtain rfl:=Option.some.inj H;go_enter Try.func91,Try.ntmps91;go_wp2;go_ret;exact⟨by rfl,by repeat(exact Drawn0.refl _)⟩
 ·rw[if_neg c2]at H;have c2b0:decide (48≤a0)=false:=decide_eq_false c2;clear c2;obtain rfl:=Option.some.inj H;go_enter Try.func91,Try.ntmps91;go_wp2;go_ret;exact⟨by rfl,by repeat(exact Drawn0.refl _)⟩
end Go.Proofs.Ytcfoebkbahpnaaa.L
