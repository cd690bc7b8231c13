import Derived.Test.YtcfoebkbahpnaaaDCx0
import Derived.Test.YtcfoebkbahpnaaaDCx34
namespace Go.Proofs.Ytcfoebkbahpnaaa.L
open Go.RowKit Go.Proofs.YtcfoebkbahpnaaaW.PrintWords Go.Proofs.YtcfoebkbahpnaaaW.PrintLast Go.Proofs.YtcfoebkbahpnaaaW.PrintMore
attribute [local go_sem] max2_int min2_int max_two min_two max_three min_three max_four min_four
set_option linter.unusedVariables false
set_option maxHeartbeats 8000000
set_option maxRecDepth 100000
set_option linter.unusedSimpArgs false
mutual
def legationref09_table.l0 : Nat → ByteArray → Int → List ByteArray → List (List (S50)) → Option (ByteArray)
  | 0, _, _, _, _ => none
  | k + 1, x3, x4, x485000, x485001 => if x4 < (x485000.length : Int) then (if x3.size + 1 ≤ 9223372036854775807 then (if 0 ≤ x4 then (if (x3 ++ (⟨#[63]⟩ : ByteArray)).size + (rdOf ByteArray.empty x485000 x4).size ≤ 9223372036854775807 then (if ((x3 ++ (⟨#[63]⟩ : ByteArray)) ++ (rdOf ByteArray.empty x485000 x4)).size + 1 ≤ 9223372036854775807 then (legationref09_table.l0 k (((x3 ++ (⟨#[63]⟩ : ByteArray)) ++ (rdOf ByteArray.empty x485000 x4)) ++ (⟨#[32]⟩ : ByteArray)) (wrap64 (x4 + 1)) x485000 x485001) else (none)) else (none)) else (none)) else (none)) else (if x3.size + 4 ≤ 9223372036854775807 then (legationref09_table.l1 k (x3 ++ (⟨#[41, 32, 123, 32]⟩ : ByteArray)) 0 x485000 x485001) else (none))
def legationref09_table.l1 : Nat → ByteArray → Int → List ByteArray → List (List (S50)) → Option (ByteArray)
  | 0, _, _, _, _ => none
  | k + 1, x3, x5, x485000, x485001 => if x5 < (x485001.length : Int) then (if x3.size + 2 ≤ 9223372036854775807 then (legationref09_table.l2 k (x3 ++ (⟨#[40, 32]⟩ : ByteArray)) x5 0 x485000 x485001) else (none)) else (if x3.size + 3 ≤ 9223372036854775807 then (some (x3 ++ (⟨#[125, 32, 125]⟩ : ByteArray))) else (none))
def legationref09_table.l2 : Nat → ByteArray → Int → Int → List ByteArray → List (List (S50)) → Option (ByteArray)
  | 0, _, _, _, _, _ => none
  | k + 1, x3, x5, x6, x485000, x485001 => if 0 ≤ x5 then (if x5 < (x485001.length : Int) then (if x6 < ((rd_L4 x485001 x5).length : Int) then (if 0 ≤ x6 then ((legationref09_of.f k ((rd_T50 (rd_L4 x485001 x5) x6).f0) ((rd_T50 (rd_L4 x485001 x5) x6).f1) ((rd_T50 (rd_L4 x485001 x5) x6).f2) ((rd_T50 (rd_L4 x485001 x5) x6).f3)).bind fun t489 => (if x3.size + t489.size ≤ 9223372036854775807 then (if (x3 ++ t489).size + 1 ≤ 9223372036854775807 then (legationref09_table.l2 k ((x3 ++ t489) ++ (⟨#[32]⟩ : ByteArray)) x5 (wrap64 (x6 + 1)) x485000 x485001) else (none)) else (none))) else (none)) else (if x3.size + 2 ≤ 9223372036854775807 then (legationref09_table.l1 k (x3 ++ (⟨#[41, 32]⟩ : ByteArray)) (wrap64 (x5 + 1)) x485000 x485001) else (none))) else (none)) else (none)
end
def legationref09_table.f (k : Nat) (l0_0 : List ByteArray) (l0_1 : List (List (S50))) : Option (ByteArray) := legationref09_table.l0 k (⟨#[123, 32, 86, 65, 76, 85, 69, 83, 32, 40, 32]⟩ : ByteArray) 0 l0_0 l0_1
theorem legationref09_table.calls (k:Nat) (A0_0:Option Addr) (c0_0:Nat) (l0_0:List ByteArray) (A0_1:Option Addr) (c0_1:Nat) (l0_1:List (List (S50))) (r:ByteArray) (w:World) (hr0_0:Kd.C Kd.string w A0_0 l0_0.length l0_0) (hc0_0:l0_0.length≤c0_0) (hr0_1:Kd.C (Kd.slice 50 k50) w A0_1 l0_1.length l0_1) (hc0_1:l0_1.length≤c0_1) (h:legationref09_table.f k l0_0 l0_1=some r):
 Calls Try.prog 56 #[.agg #[.slice A0_0 l0_0.length c0_0,.slice A0_1 l0_1.length c0_1]] w fun e w'=>e= .returned (.string r)∧Below w.heap.size w w':=by
 have HR0_0:=zA hr0_0;have HC0_0:=zA hc0_0;clear hr0_0 hc0_0;have HR0_1:=zA hr0_1;have HC0_1:=zA hc0_1;clear hr0_1 hc0_1;have HB:=zA (Below.refl w.heap.size w);have H:(legationref09_table.l0 k (⟨#[123,32,86,65,76,85,69,83,32,40,32]⟩:ByteArray) 0 l0_0 l0_1)=some r:=h;clear h;have H':=zA H;clear H;go_enter Try.func56,Try.ntmps56;go_wp2_with (((with_reducible refine gate_dst (N:=1) rfl ?_);refine zE #[.slice A0_0 l0_0.length c0_0,.slice A0_1 l0_1.length c0_1] 42 ?_;intro gb484 hg w2 hbox hb;have BK484:=zA hbox;have GW484:=zZ HB.out hg;replace HB:=zS HB.out hb;clear hb hbox hg));go_loopg [3,4] k (fun kq v3 v4 w'=> ∃ (x3_1:ByteArray) (x4_1:Int),v3= .string x3_1∧v4= .int .i64 x4_1∧Aside0 (legationref09_table.l0 kq x3_1 x4_1 l0_0 l0_1=some r)∧Aside0 (kq≤k)∧Aside0 (w'.heap[gb484]? =some (.cells #[(.slice A0_0 l0_0.length c0_0),(.slice A0_1 l0_1.length c0_1)] 42 (0,0)))∧Aside0 (Below w.heap.size w w'));(case atStart=>exact⟨((⟨#[123,32,86,65,76,85,69,83,32,40,32]⟩:ByteArray)),(0),(by rfl),(by rfl),H',⟨Nat.le_refl _⟩,⟨by exact BK484.out⟩,⟨HB.out⟩⟩);case round=>
  clear H';obtain⟨x3_1,x4_1,rfl,rfl,HA,HK1,BK484,HB⟩:=hrel;cases gk with
  |zero=>exact absurd HA.out (by simp[legationref09_table.l0])
  |succ k1=>
   have H:=HA.out;clear HA;simp only[legationref09_table.l0]at H;obtain⟨c3b0,H⟩|⟨c3b0,H⟩:=zj H
   ·by_cases c4:x3_1.size+1≤9223372036854775807
    ·rw[if_pos c4]at H;(try have c4b2:(9223372036854775807<x3_1.size+1)=False:=eq_false (Nat.not_lt.2 c4));obtain⟨c5b0,H⟩|⟨_,H⟩:=zj H
     ·by_cases c6:(x3_1++(⟨#[63]⟩:ByteArray)).size+(rdOf ByteArray.empty l0_0 x4_1).size≤9223372036854775807
      ·rw[if_pos c6]at H;(try skip);(try have c6b3:(9223372036854775807<(x3_1.size+1)+(rdOf ByteArray.empty l0_0 x4_1).size)=False:=eq_false (Nat.not_lt.2 (by have h_:=c6;simp only[ByteArray.size_append]at h_;exact h_)));by_cases c7:((x3_1++(⟨#[63]⟩:ByteArray))++(rdOf ByteArray.empty l0_0 x4_1)).size+1≤9223372036854775807
       ·rw[if_pos c7]at H;(try skip);(try have c7b3:(9223372036854775807<((x3_1.size+1)+(rdOf ByteArray.empty l0_0 x4_1).size)+1)=False:=eq_false (Nat.not_lt.2 (by have h_:=c7;simp only[ByteArray.size_append]at h_;exact h_)));have H':=zA H;clear H;have hcz8_0:=zc20 BK484.out;have p485:0≤(x4_1:Int):=zD;have q485:x4_1<(l0_0.length:Int):=zD;obtain⟨ad485,e485,hx485_0⟩:=Kd.at_string HR0_0.out x4_1 p485 q485;cases e485
        replace hx485_0:=zh HB.out hx485_0;replace p485:=eq_true p485;replace q485:=eq_true q485;go_wp2;go_roundg k1;(case measure=>have:=HK1.out;omega);case rel=>exact⟨(((x3_1++(⟨#[63]⟩:ByteArray))++(rdOf ByteArray.empty l0_0 x4_1))++(⟨#[32]⟩:ByteArray)),(wrap64 (x4_1+1)),(by rfl),(by rfl),H',⟨by have:=HK1.out;omega⟩,⟨by exact BK484.out⟩,⟨HB.out⟩⟩
       ·rw[if_neg c7]at H;exact absurd H (by simp)
      ·rw[if_neg c6]at H;exact absurd H (by simp)
     ·cases H
    ·rw[if_neg c4]at H;exact absurd H (by simp)
   ·by_cases c9:x3_1.size+4≤9223372036854775807
    ·rw[if_pos c9]at H;(try have c9b2:(9223372036854775807<x3_1.size+4)=False:=eq_false (Nat.not_lt.2 c9));have H':=zA H;clear H;have hcz10_0:=zc20 BK484.out;go_wp2;go_loopg [3,5] k1 (fun kq v3 v5 w'=> ∃ (x3_2:ByteArray) (x5_2:Int),v3= .string x3_2∧v5= .int .i64 x5_2∧Aside0 (legationref09_table.l1 kq x3_2 x5_2 l0_0 l0_1=some r)∧Aside0 (kq≤k1)∧Aside0 (w'.heap[gb484]? =some (.cells #[(.slice A0_0 l0_0.length c0_0),(.slice A0_1 l0_1.length c0_1)] 42 (0,0)))∧Aside0 (Below w.heap.size w w'));(case atStart=>exact⟨(x3_1++(⟨#[41,32,123,32]⟩:ByteArray)),(0),(by rfl),(by rfl),H',⟨Nat.le_refl _⟩,⟨by exact BK484.out⟩,⟨HB.out⟩⟩);case round=>
      clear H';(try clear c3b0);(try clear c9);(try clear c9b2);(try clear hcz10_0);obtain⟨x3_2,x5_2,rfl,rfl,HA,HK2,BK484,HB⟩:=hrel;cases gk with
      |zero=>exact absurd HA.out (by simp[legationref09_table.l1])
      |succ k2=>
       have H:=HA.out;clear HA;simp only[legationref09_table.l1]at H;obtain⟨c11b0,H⟩|⟨c11b0,H⟩:=zj H
       ·by_cases c12:x3_2.size+2≤9223372036854775807
        ·rw[if_pos c12]at H;(try have c12b2:(9223372036854775807<x3_2.size+2)=False:=eq_false (Nat.not_lt.2 c12));have H':=zA H;clear H;have hcz13_1:=zc21 BK484.out;go_wp2;go_loopg [3,6] k2 (fun kq v3 v6 w'=> ∃ (x3_3:ByteArray) (x6_3:Int),v3= .string x3_3∧v6= .int .i64 x6_3∧Aside0 (legationref09_table.l2 kq x3_3 x5_2 x6_3 l0_0 l0_1=some r)∧Aside0 (kq≤k2)∧Aside0 (w'.heap[gb484]? =some (.cells #[(.slice A0_0 l0_0.length c0_0),(.slice A0_1 l0_1.length c0_1)] 42 (0,0)))∧Aside0 (Below w.heap.size w w'));(case atStart=>exact⟨(x3_2++(⟨#[40,32]⟩:ByteArray)),(0),(by rfl),(by rfl),H',⟨Nat.le_refl _⟩,⟨by exact BK484.out⟩,⟨HB.out⟩⟩);case round=>
          clear H';(try clear c11b0);(try clear c12);(try clear c12b2);(try clear hcz13_1);obtain⟨x3_3,x6_3,rfl,rfl,HA,HK3,BK484,HB⟩:=hrel;cases gk with
          |zero=>exact absurd HA.out (by simp[legationref09_table.l2])
          |succ k3=>
           have H:=HA.out;clear HA;simp only[legationref09_table.l2]at H;obtain⟨c14b0,H⟩|⟨_,H⟩:=zj H
           ·obtain⟨c15b0,H⟩|⟨_,H⟩:=zj H
            ·obtain⟨c16b0,H⟩|⟨c16b0,H⟩:=zj H
             ·obtain⟨c17b0,H⟩|⟨_,H⟩:=zj H
              ·obtain⟨t489,A18,H⟩:=zk H;by_cases c19:x3_3.size+t489.size≤9223372036854775807
               ·rw[if_pos c19]at H;(try have c19b2:(9223372036854775807<x3_3.size+t489.size)=False:=eq_false (Nat.not_lt.2 c19));by_cases c20:(x3_3++t489).size+1≤9223372036854775807
                ·rw[if_pos c20]at H;(try skip);(try have c20b3:(9223372036854775807<(x3_3.size+t489.size)+1)=False:=eq_false (Nat.not_lt.2 (by have h_:=c20;simp only[ByteArray.size_append]at h_;exact h_)));have H':=zA H;clear H;have hcz21_1:=zc21 BK484.out;have p486:0≤(x5_2:Int):=zD;have q486:x5_2<(l0_1.length:Int):=zD;obtain⟨ad486,A486_0,c486_0,e486,hx486_0,hl486_0,hi486_0⟩:=at_L4 HR0_1.out x5_2 p486 q486;cases e486
                 replace hx486_0:=zh HB.out hx486_0;have HR486_0:=zA hi486_0;have HC486_0:=zA hl486_0;clear hi486_0 hl486_0;replace p486:=eq_true p486;replace q486:=eq_true q486;have p487:0≤(x5_2:Int):=zD;have q487:x5_2<(l0_1.length:Int):=zD;obtain⟨ad487,A487_0,c487_0,e487,hx487_0,hl487_0,hi487_0⟩:=at_L4 HR0_1.out x5_2 p487 q487;obtain rfl:ad486=ad487:=(by injection e487);replace hx487_0:=zh HB.out hx487_0;have HR487_0:=zA hi487_0;have HC487_0:=zA hl487_0;clear hi487_0 hl487_0;replace p487:=eq_true p487;replace q487:=eq_true q487;have ea_:=Option.some.inj (hx486_0.symm.trans hx487_0);injection ea_ with ea_ en_ ec_
                 subst ea_;subst ec_;clear en_;have p488:0≤(x6_3:Int):=zD;have q488:x6_3<((rd_L4 l0_1 x5_2).length:Int):=zD;obtain⟨ad488,e488,_,_,_,_⟩:=at_T50 (Kd.C_below HR487_0.out HB.out) x6_3 p488 q488;cases e488
                 replace p488:=eq_true p488;replace q488:=eq_true q488;go_wp2_with (((with_reducible refine gate_callee (f:=80) rfl ?_);refine zY (some 53) Try.func80 (legationref09_of.calls _ _ _ _ _ _ _ A18.out) ?_;rintro e w22 ⟨rfl,hb⟩;refine⟨_,rfl,?_⟩;replace BK484:=zB BK484.out hb;replace HB:=zS HB.out hb;(try clear hb)));go_roundg k3;(case measure=>have:=HK1.out;have:=HK2.out;have:=HK3.out;omega);case rel=>exact⟨((x3_3++t489)++(⟨#[32]⟩:ByteArray)),(wrap64 (x6_3+1)),(by rfl),(by rfl),H',⟨by have:=HK1.out;have:=HK2.out;have:=HK3.out;omega⟩,⟨by exact BK484.out⟩,⟨HB.out⟩⟩
                ·rw[if_neg c20]at H;exact absurd H (by simp)
               ·rw[if_neg c19]at H;exact absurd H (by simp)
              ·cases H
             ·by_cases c23:x3_3.size+2≤9223372036854775807
              ·rw[if_pos c23]at H;(try have c23b2:(9223372036854775807<x3_3.size+2)=False:=eq_false (Nat.not_lt.2 c23));have H':=zA H;clear H;have hcz24_1:=zc21 BK484.out;have p486:0≤(x5_2:Int):=zD;have q486:x5_2<(l0_1.length:Int):=zD;obtain⟨ad486,A486_0,c486_0,e486,hx486_0,hl486_0,hi486_0⟩:=at_L4 HR0_1.out x5_2 p486 q486;cases e486
               replace hx486_0:=zh HB.out hx486_0;have HR486_0:=zA hi486_0;have HC486_0:=zA hl486_0;clear hi486_0 hl486_0;replace p486:=eq_true p486;replace q486:=eq_true q486;go_wp2;go_roundg k3;(case measure=>have:=HK1.out;have:=HK2.out;have:=HK3.out;omega);case rel=>exact⟨(x3_3++(⟨#[41,32]⟩:ByteArray)),(wrap64 (x5_2+1)),(by rfl),(by rfl),H',⟨by have:=HK1.out;have:=HK2.out;have:=HK3.out;omega⟩,⟨by exact BK484.out⟩,⟨HB.out⟩⟩
              ·rw[if_neg c23]at H;exact absurd H (by simp)
            ·cases H
           ·cases H
        ·rw[if_neg c12]at H;exact absurd H (by simp)
       ·by_cases c25:x3_2.size+3≤9223372036854775807
        ·rw[if_pos c25]at H;(try have c25b2:(9223372036854775807<x3_2.size+3)=False:=eq_false (Nat.not_lt.2 c25));obtain rfl:=Option.some.inj H;have hcz26_1:=zc21 BK484.out;go_wp2;go_ret;exact⟨by rfl,HB.out⟩
        ·rw[if_neg c25]at H;exact absurd H (by simp)
    ·rw[if_neg c9]at H;exact absurd H (by simp)
end Go.Proofs.Ytcfoebkbahpnaaa.L
