import Derived.Test.YtcfoebkbahpnaaaDCx0
import Derived.Test.YtcfoebkbahpnaaaDCx29
namespace Go.Proofs.Ytcfoebkbahpnaaa.L
open Go.RowKit Go.Proofs.YtcfoebkbahpnaaaW.PrintWords Go.Proofs.YtcfoebkbahpnaaaW.PrintLast Go.Proofs.YtcfoebkbahpnaaaW.PrintMore
attribute [local go_sem] max2_int min2_int max_two min_two max_three min_three max_four min_four
set_option linter.unusedVariables false
set_option maxHeartbeats 8000000
set_option maxRecDepth 100000
set_option linter.unusedSimpArgs false
mutual
def formula_text.j1 : Nat → List ByteArray → Int → Int → ByteArray → ByteArray → ByteArray → ByteArray → Int → Option (ByteArray)
  | 0, _, _, _, _, _, _, _, _ => none
  | k + 1, x1, x358000, x358001, x358002, x358003, x358004, x358005, x358006 => (formula_sign.f x358000).bind fun t365 => (if t365.size + 3 ≤ 9223372036854775807 then (formula_text.l0 k (t365 ++ (⟨#[32, 40, 32]⟩ : ByteArray)) x1 (x1.length : Int) 0) else (none))
def formula_text.l0 : Nat → ByteArray → List ByteArray → Int → Int → Option (ByteArray)
  | 0, _, _, _, _ => none
  | k + 1, x7, x81, x82, x83 => if x83 < x82 then (if 0 ≤ x83 then (if x83 < (x81.length : Int) then (if x83 > 0 then (if x7.size + 3 ≤ 9223372036854775807 then (if (x7 ++ (⟨#[32, 44, 32]⟩ : ByteArray)).size + (rdOf ByteArray.empty x81 x83).size ≤ 9223372036854775807 then (formula_text.l0 k ((x7 ++ (⟨#[32, 44, 32]⟩ : ByteArray)) ++ (rdOf ByteArray.empty x81 x83)) x81 x82 (wrap64 (x83 + 1))) else (none)) else (none)) else (if x7.size + (rdOf ByteArray.empty x81 x83).size ≤ 9223372036854775807 then (formula_text.l0 k (x7 ++ (rdOf ByteArray.empty x81 x83)) x81 x82 (wrap64 (x83 + 1))) else (none))) else (none)) else (none)) else (if x7.size + 2 ≤ 9223372036854775807 then (some (x7 ++ (⟨#[32, 41]⟩ : ByteArray))) else (none))
def formula_text.j0 : Nat → List ByteArray → Bool → Int → Int → ByteArray → ByteArray → ByteArray → ByteArray → Int → Option (ByteArray)
  | 0, _, _, _, _, _, _, _, _, _ => none
  | k + 1, x1, x36, x358000, x358001, x358002, x358003, x358004, x358005, x358006 => if x36 = true then ((formula_sign.f x358000).bind fun t360 => (if t360.size + 1 ≤ 9223372036854775807 then (if 0 < (x1.length : Int) then (if (t360 ++ (⟨#[32]⟩ : ByteArray)).size + (rdOf ByteArray.empty x1 0).size ≤ 9223372036854775807 then (some ((t360 ++ (⟨#[32]⟩ : ByteArray)) ++ (rdOf ByteArray.empty x1 0))) else (none)) else (none)) else (none))) else (if x358000 ≥ 6 then (if x358000 ≤ 17 then (if 0 < (x1.length : Int) then (if 2 + (rdOf ByteArray.empty x1 0).size ≤ 9223372036854775807 then (if ((⟨#[40, 32]⟩ : ByteArray) ++ (rdOf ByteArray.empty x1 0)).size + 1 ≤ 9223372036854775807 then ((formula_sign.f x358000).bind fun t363 => (if (((⟨#[40, 32]⟩ : ByteArray) ++ (rdOf ByteArray.empty x1 0)) ++ (⟨#[32]⟩ : ByteArray)).size + t363.size ≤ 9223372036854775807 then (if ((((⟨#[40, 32]⟩ : ByteArray) ++ (rdOf ByteArray.empty x1 0)) ++ (⟨#[32]⟩ : ByteArray)) ++ t363).size + 1 ≤ 9223372036854775807 then (if 1 < (x1.length : Int) then (if (((((⟨#[40, 32]⟩ : ByteArray) ++ (rdOf ByteArray.empty x1 0)) ++ (⟨#[32]⟩ : ByteArray)) ++ t363) ++ (⟨#[32]⟩ : ByteArray)).size + (rdOf ByteArray.empty x1 1).size ≤ 9223372036854775807 then (if ((((((⟨#[40, 32]⟩ : ByteArray) ++ (rdOf ByteArray.empty x1 0)) ++ (⟨#[32]⟩ : ByteArray)) ++ t363) ++ (⟨#[32]⟩ : ByteArray)) ++ (rdOf ByteArray.empty x1 1)).size + 2 ≤ 9223372036854775807 then (some (((((((⟨#[40, 32]⟩ : ByteArray) ++ (rdOf ByteArray.empty x1 0)) ++ (⟨#[32]⟩ : ByteArray)) ++ t363) ++ (⟨#[32]⟩ : ByteArray)) ++ (rdOf ByteArray.empty x1 1)) ++ (⟨#[32, 41]⟩ : ByteArray))) else (none)) else (none)) else (none)) else (none)) else (none))) else (none)) else (none)) else (none)) else (formula_text.j1 k x1 x358000 x358001 x358002 x358003 x358004 x358005 x358006)) else (formula_text.j1 k x1 x358000 x358001 x358002 x358003 x358004 x358005 x358006))
end
def formula_text.f (k : Nat) (a0_0 : Int) (a0_1 : Int) (a0_2 : ByteArray) (a0_3 : ByteArray) (a0_4 : ByteArray) (a0_5 : ByteArray) (a0_6 : Int) (l1 : List ByteArray) : Option (ByteArray) := if a0_0 = 1 then ((term_Text.f k a0_1 a0_2 a0_3 a0_4).bind fun bt358 => (some bt358.1)) else (if a0_0 = 2 then (if 1 + a0_5.size ≤ 9223372036854775807 then (some ((⟨#[63]⟩ : ByteArray) ++ a0_5)) else (none)) else (if a0_0 = 3 then (if 9 + a0_5.size ≤ 9223372036854775807 then (if ((⟨#[66, 79, 85, 78, 68, 32, 40, 32, 63]⟩ : ByteArray) ++ a0_5).size + 2 ≤ 9223372036854775807 then (some (((⟨#[66, 79, 85, 78, 68, 32, 40, 32, 63]⟩ : ByteArray) ++ a0_5) ++ (⟨#[32, 41]⟩ : ByteArray))) else (none)) else (none)) else (if a0_0 = 4 then (formula_text.j0 k l1 true a0_0 a0_1 a0_2 a0_3 a0_4 a0_5 a0_6) else (formula_text.j0 k l1 (a0_0 == 5) a0_0 a0_1 a0_2 a0_3 a0_4 a0_5 a0_6))))
def formula_text.T9 : Bool × List (List Nat × List Nat) := (true, [([], []), ([0], [0]), ([1], [1]), ([2], [2]), ([], []), ([4], [4]), ([5], [5]), ([3, 6], [3, 6]), ([7, 2, 0, 1, 2, 3, 4, 5, 6, 7], [7])])
def formula_text.B9 : List Nat := [0, 1, 3, 7, 0, 16, 48, 127, 255]
theorem formula_text.tab9:rtab .any (opsOf Try.f98 9)=formula_text.T9:=by kernel_rfl
theorem formula_text.bits9:waitsOk formula_text.T9.2 formula_text.B9=true:=by kernel_rfl
def formula_text.T11 : Bool × List (List Nat × List Nat) := (true, [([], []), ([0], [0]), ([1], [1]), ([2], [2]), ([3], [3]), ([], []), ([5], [5]), ([6], [6]), ([4, 7], [4, 7]), ([8], [8]), ([], []), ([10], [10]), ([11], [11]), ([9, 12], [9, 12]), ([13], [13]), ([14, 7, 0, 1, 2, 3, 4, 5, 6, 7, 8, 9, 10, 11, 12, 13, 14], [14])])
def formula_text.B11 : List Nat := [0, 1, 3, 7, 15, 0, 32, 96, 255, 511, 0, 1024, 3072, 8191, 16383, 32767]
theorem formula_text.tab11:rtab .any (opsOf Try.f98 11)=formula_text.T11:=by kernel_rfl
theorem formula_text.bits11:waitsOk formula_text.T11.2 formula_text.B11=true:=by kernel_rfl
theorem formula_text.calls (k:Nat) (a0_0:Int) (a0_1:Int) (a0_2:ByteArray) (a0_3:ByteArray) (a0_4:ByteArray) (a0_5:ByteArray) (a0_6:Int) (A1:Option Addr) (c1:Nat) (l1:List ByteArray) (r:ByteArray) (w:World) (hr1:Kd.C Kd.string w A1 l1.length l1) (hc1:l1.length≤c1) (h:formula_text.f k a0_0 a0_1 a0_2 a0_3 a0_4 a0_5 a0_6 l1=some r):
 Calls Try.prog 98 #[.agg #[.int .i64 a0_0,.int .i64 a0_1,.string a0_2,.string a0_3,.string a0_4,.string a0_5,.int .i64 a0_6],.slice A1 l1.length c1] w fun e w'=>e= .returned (.string r)∧Below w.heap.size w w':=by
 have HR1:=zA hr1;have HC1:=zA hc1;clear hr1 hc1;have HB:=zA (Below.refl w.heap.size w);have H:(if a0_0=1 then((term_Text.f k a0_1 a0_2 a0_3 a0_4).bind fun bt358=>(some bt358.1))else(if a0_0=2 then(if 1+a0_5.size≤9223372036854775807 then(some ((⟨#[63]⟩:ByteArray)++a0_5))else(none))else(if a0_0=3 then(if 9+a0_5.size≤9223372036854775807 then(if((⟨#[66,79,85,78,68,32,40,32,63]⟩:ByteArray)++a0_5).size+2≤9223372036854775807 then(some (((⟨#[66,79,85,78,68,32,40,32,63]⟩:ByteArray)++a0_5)++(⟨#[32,41]⟩:ByteArray)))else(none))else(none))else(if a0_0=4 then(formula_text.j0 k l1 true a0_0 a0_1 a0_2 a0_3 a0_4 a0_5 a0_6)else(formula_text.j0 k l1 (a0_0==5) a0_0 a0_1 a0_2 a0_3 a0_4 a0_5 a0_6)))))=some r:=h;clear h;have HC3:=zA H;clear H;go_enter Try.func98,Try.ntmps98;go_upto_block 0 with (((with_reducible refine gate_dst (N:=2) rfl ?_);refine zE #[.int .i64 a0_0,.int .i64 a0_1,.string a0_2,.string a0_3,.string a0_4,.string a0_5,.int .i64 a0_6] 112 ?_;intro gb357 hg w4 hbox hb;have BK357:=zA hbox;have GW357:=zZ HB.out hg;replace HB:=zS HB.out hb;clear hb hbox hg))
 go_cut [] (fun wc=> ∃ (kq:Nat),Aside0 (formula_text.j1 kq l1 a0_0 a0_1 a0_2 a0_3 a0_4 a0_5 a0_6=some r)∧Aside0 (kq≤k)∧Aside0 (wc.heap[gb357]? =some (.cells #[.int .i64 a0_0,.int .i64 a0_1,.string a0_2,.string a0_3,.string a0_4,.string a0_5,.int .i64 a0_6] 112 (0,0)))∧Aside0 (Below w.heap.size w wc));case first=>
  have H:=HC3.out;clear HC3;by_cases c5:a0_0=1
  ·rw[if_pos c5]at H;have c5b0:(a0_0==1)=true:=beq_iff_eq.mpr c5;clear c5;replace H:=zO H;obtain⟨⟨t358,t359⟩,A60,H⟩:=H;replace H:(some t358)=some r:=H;have A6:=zA A60;clear A60;obtain rfl:=Option.some.inj H;have hcz7_0:=zc7_0 BK357.out;have hcz7_1:=zc7_1 BK357.out;have hcz7_2:=zc7_2 BK357.out;have hcz7_3:=zc7_3 BK357.out;have hcz7_4:=zc7_4 BK357.out;go_wp2_with (((with_reducible refine gate_callee (f:=107) rfl ?_);refine zY (some 17) Try.func107 (term_Text.calls _ _ _ _ _ _ _ _ A6.out) ?_;rintro e w8 ⟨rfl,hb⟩;refine⟨_,rfl,?_⟩;replace BK357:=zB BK357.out hb;replace HB:=zS HB.out hb;(try clear hb)));go_ret;exact⟨by rfl,HB.out⟩
  ·rw[if_neg c5]at H;have c5b0:(a0_0==1)=false:=beq_eq_false_iff_ne.mpr c5;by_cases c9:a0_0=2
   ·rw[if_pos c9]at H;have c9b0:(a0_0==2)=true:=beq_iff_eq.mpr c9;clear c9;by_cases c10:1+a0_5.size≤9223372036854775807
    ·rw[if_pos c10]at H;(try have c10b2:(9223372036854775807<1+a0_5.size)=False:=eq_false (Nat.not_lt.2 c10));obtain rfl:=Option.some.inj H;have hcz11_0:=zc7_0 BK357.out;have hcz11_5:=zc7_5 BK357.out;go_wp2;go_ret;exact⟨by rfl,HB.out⟩
    ·rw[if_neg c10]at H;exact absurd H (by simp)
   ·rw[if_neg c9]at H;have c9b0:(a0_0==2)=false:=beq_eq_false_iff_ne.mpr c9;by_cases c12:a0_0=3
    ·rw[if_pos c12]at H;have c12b0:(a0_0==3)=true:=beq_iff_eq.mpr c12;clear c12;by_cases c13:9+a0_5.size≤9223372036854775807
     ·rw[if_pos c13]at H;(try have c13b2:(9223372036854775807<9+a0_5.size)=False:=eq_false (Nat.not_lt.2 c13));by_cases c14:((⟨#[66,79,85,78,68,32,40,32,63]⟩:ByteArray)++a0_5).size+2≤9223372036854775807
      ·rw[if_pos c14]at H;(try skip);(try have c14b3:(9223372036854775807<(9+a0_5.size)+2)=False:=eq_false (Nat.not_lt.2 (by have h_:=c14;simp only[ByteArray.size_append]at h_;exact h_)));obtain rfl:=Option.some.inj H;have hcz15_0:=zc7_0 BK357.out;have hcz15_5:=zc7_5 BK357.out;go_wp2;go_ret;exact⟨by rfl,HB.out⟩
      ·rw[if_neg c14]at H;exact absurd H (by simp)
     ·rw[if_neg c13]at H;exact absurd H (by simp)
    ·rw[if_neg c12]at H;have c12b0:(a0_0==3)=false:=beq_eq_false_iff_ne.mpr c12;have HC16:=zA H;clear H;have hcz17_0:=zc7_0 BK357.out;go_upto_region 8 with (fail)
     go_cut [36] (fun v36 wc=> ∃ (kq:Nat) (x36_15:Bool),v36= .bool x36_15∧Aside0 (formula_text.j0 kq l1 x36_15 a0_0 a0_1 a0_2 a0_3 a0_4 a0_5 a0_6=some r)∧Aside0 (kq≤k)∧Aside0 (wc.heap[gb357]? =some (.cells #[.int .i64 a0_0,.int .i64 a0_1,.string a0_2,.string a0_3,.string a0_4,.string a0_5,.int .i64 a0_6] 112 (0,0)))∧Aside0 (Below w.heap.size w wc));case first=>
      have H:=HC16.out;clear HC16;obtain⟨c18b0,H⟩|⟨c18b0,H⟩:=zb H
      ·have H':=zA H;clear H;go_wp2;go_meet;case rel=>exact⟨_,(true),(by rfl),H',⟨by omega⟩,⟨by exact BK357.out⟩,⟨HB.out⟩⟩
      ·have H':=zA H;clear H;go_wp2;go_meet;case rel=>exact⟨_,((a0_0==5)),(by rfl),H',⟨by omega⟩,⟨by exact BK357.out⟩,⟨HB.out⟩⟩
     case rest=>
      clear HC16;(try clear c5);(try clear c5b0);(try clear c9);(try clear c9b0);(try clear c12);(try clear c12b0);(try clear hcz17_0);obtain⟨kq,x36_15,rfl,HA,HJ15,BK357,HB⟩:=hcut;cases kq with
      |zero=>exact absurd HA.out (by simp[formula_text.j0])
      |succ kj15=>
       have H:=HA.out;clear HA;simp only[formula_text.j0]at H;by_cases c21:x36_15=true
       ·subst c21;rw[if_pos rfl]at H;obtain⟨t360,A22,H⟩:=zk H;by_cases c23:t360.size+1≤9223372036854775807
        ·rw[if_pos c23]at H;(try have c23b2:(9223372036854775807<t360.size+1)=False:=eq_false (Nat.not_lt.2 c23));obtain⟨c24b0,H⟩|⟨_,H⟩:=zj H
         ·by_cases c25:(t360++(⟨#[32]⟩:ByteArray)).size+(rdOf ByteArray.empty l1 0).size≤9223372036854775807
          ·rw[if_pos c25]at H;(try skip);(try have c25b3:(9223372036854775807<(t360.size+1)+(rdOf ByteArray.empty l1 0).size)=False:=eq_false (Nat.not_lt.2 (by have h_:=c25;simp only[ByteArray.size_append]at h_;exact h_)));obtain rfl:=Option.some.inj H;(try go_wp2);replace BK357:=zA (blk_drew BK357.out);replace HB:=zA (below_drew1 HB.out);have p361:0≤(0:Int):=(by omega);have q361:0<(l1.length:Int):=zD;obtain⟨ad361,e361,hx361_0⟩:=Kd.at_string HR1.out 0 p361 q361;have hw361_0:=hx361_0;(try rw[show((0:Int)).toNat=0 from rfl]at hw361_0);(try rw[Addr.add_zero']at hw361_0);cases e361
           have qi361:(0<l1.length)=True:=eq_true (by omega);(try rw[show((0:Int)).toNat=0 from rfl]at hx361_0);(try rw[Addr.add_zero']at hx361_0);replace hx361_0:=zh HB.out hx361_0;replace p361:=eq_true p361;replace q361:=eq_true q361;refine start_ (n:=9) (S:=fun w'=>w'.cell? ⟨gb357,0,none⟩=some (.int .i64 a0_0)∧w'.cell? ⟨gb357,1,none⟩=some (.int .i64 a0_1)∧w'.cell? ⟨gb357,2,none⟩=some (.string a0_2)∧w'.cell? ⟨gb357,3,none⟩=some (.string a0_3)∧w'.cell? ⟨gb357,4,none⟩=some (.string a0_4)∧w'.cell? ⟨gb357,5,none⟩=some (.string a0_5)∧w'.cell? ⟨gb357,6,none⟩=some (.int .i64 a0_6)∧w'.cell? ad361=some (.string (rdOf ByteArray.empty l1 0))) (ds:= []) (zm 9 0) (by kernel_rfl) rfl rfl ⟨(blk_cell BK357.out 0).trans rfl,(blk_cell BK357.out 1).trans rfl,(blk_cell BK357.out 2).trans rfl,(blk_cell BK357.out 3).trans rfl,(blk_cell BK357.out 4).trans rfl,(blk_cell BK357.out 5).trans rfl,(blk_cell BK357.out 6).trans rfl,((HB.out.cell (World.block_lt_of_cell? w _ hw361_0)).trans hw361_0)⟩ (fun hHeld=>?_);refine with_tabW formula_text.tab9 formula_text.bits9 (fun HT_ HW_=>?_);generalize wc.drew=w26 at BK357 HB hx361_0 hHeld ⊢;refine zV (i:=0) (N:=some 45) HT_ (zm 9 1) ?_;refine zV (i:=4) (N:=some 49) HT_ (zm 9 17) ?_;refine zV (i:=5) (N:=some 50) HT_ (zm 9 49) ?_
           refine take_ (i:=1) (N:=some 46) (v:=?_) (a':=?_) (zm 9 51) rfl rfl (take_ofW HT_.out HW_.out (by kernel_rfl)) (fun _ _ _ h=>h) (Or.inl ⟨by rfl,?_⟩) hHeld ?_ ?_;rotate_left
           ·rintro w' ⟨s0,s1,s2,s3,s4,s5,s6,s7⟩;go_simp;with_reducible rfl
           rotate_left
           ·simp only[Act.put,List.setIfInBounds_toArray,List.set_cons_zero,List.set_cons_succ,i64_w,i32_w];rfl
           refine take_ (i:=6) (N:=some 51) (v:=?_) (a':=?_) (zm 9 115) rfl rfl (take_ofW HT_.out HW_.out (by kernel_rfl)) (fun _ _ _ h=>h) (Or.inl ⟨by rfl,?_⟩) hHeld ?_ ?_;rotate_left
           ·rintro w' ⟨s0,s1,s2,s3,s4,s5,s6,s7⟩;go_simp;with_reducible rfl
           rotate_left
           ·simp only[Act.put,List.setIfInBounds_toArray,List.set_cons_zero,List.set_cons_succ,i64_w,i32_w];rfl
           refine one_ (i:=2) (N:=some 47) (zm 9 119) rfl rfl (one_of HT_.out (by kernel_rfl)) (by decide) (fun K hK=>?_);refine goes_ Try.func108 (by kernel_rfl) rfl #[.int .i64 a0_0] (by rfl) rfl rfl (by(try simp only[List.map_toArray,List.map_cons,List.map_nil]);rfl) ?_;(with_reducible refine(formula_sign.calls a0_0 t360 _ A22.out).mono ?_);rintro e w27 ⟨rfl,hb⟩;refine⟨_,rfl,?_⟩;replace BK357:=zB BK357.out hb;replace HB:=zS HB.out hb;(try clear hb);refine hK.out _ _ ⟨(blk_cell BK357.out 0).trans rfl,(blk_cell BK357.out 1).trans rfl,(blk_cell BK357.out 2).trans rfl,(blk_cell BK357.out 3).trans rfl,(blk_cell BK357.out 4).trans rfl,(blk_cell BK357.out 5).trans rfl,(blk_cell BK357.out 6).trans rfl,((HB.out.cell (World.block_lt_of_cell? w _ hw361_0)).trans hw361_0)⟩ (fun hHeld=>?_);clear hK K;refine norm_ (a':=?_) ?_ ?_;rotate_left
           ·(show Act.put _ (some 47) _=_);simp only[Act.put,List.setIfInBounds_toArray,List.set_cons_zero,List.set_cons_succ,i64_w,i32_w];rfl
           refine zV (i:=3) (N:=some 48) HT_ (zm 9 127) ?_;refine zV (i:=7) (N:=some 52) HT_ (zm 9 255) ?_;refine zV (i:=8) (N:=some 4) HT_ (zm 9 511) ?_
           refine done_ (done_of HT_.out (by kernel_rfl)) ?_;(try go_wp2);go_ret;exact⟨by rfl,HB.out⟩
          ·rw[if_neg c25]at H;exact absurd H (by simp)
         ·cases H
        ·rw[if_neg c23]at H;exact absurd H (by simp)
       ·replace c21:=Bool.eq_false_iff.mpr c21;subst c21;rw[if_neg (show ¬(false=true)by decide)]at H;by_cases c28:a0_0≥6
        ·rw[if_pos c28]at H;have c28b0:decide (6≤a0_0)=true:=decide_eq_true c28;clear c28;obtain⟨c29b0,H⟩|⟨c29b0,H⟩:=zj H
         ·obtain⟨c30b0,H⟩|⟨_,H⟩:=zj H
          ·by_cases c31:2+(rdOf ByteArray.empty l1 0).size≤9223372036854775807
           ·rw[if_pos c31]at H;(try have c31b2:(9223372036854775807<2+(rdOf ByteArray.empty l1 0).size)=False:=eq_false (Nat.not_lt.2 c31));by_cases c32:((⟨#[40,32]⟩:ByteArray)++(rdOf ByteArray.empty l1 0)).size+1≤9223372036854775807
            ·rw[if_pos c32]at H;(try skip);(try have c32b3:(9223372036854775807<(2+(rdOf ByteArray.empty l1 0).size)+1)=False:=eq_false (Nat.not_lt.2 (by have h_:=c32;simp only[ByteArray.size_append]at h_;exact h_)));obtain⟨t363,A33,H⟩:=zk H;by_cases c34:(((⟨#[40,32]⟩:ByteArray)++(rdOf ByteArray.empty l1 0))++(⟨#[32]⟩:ByteArray)).size+t363.size≤9223372036854775807
             ·rw[if_pos c34]at H;(try skip);(try have c34b3:(9223372036854775807<((2+(rdOf ByteArray.empty l1 0).size)+1)+t363.size)=False:=eq_false (Nat.not_lt.2 (by have h_:=c34;simp only[ByteArray.size_append]at h_;exact h_)));by_cases c35:((((⟨#[40,32]⟩:ByteArray)++(rdOf ByteArray.empty l1 0))++(⟨#[32]⟩:ByteArray))++t363).size+1≤9223372036854775807
              ·rw[if_pos c35]at H;(try skip);(try have c35b3:(9223372036854775807<(((2+(rdOf ByteArray.empty l1 0).size)+1)+t363.size)+1)=False:=eq_false (Nat.not_lt.2 (by have h_:=c35;simp only[ByteArray.size_append]at h_;exact h_)));obtain⟨c36b0,H⟩|⟨_,H⟩:=zj H
               ·by_cases c37:(((((⟨#[40,32]⟩:ByteArray)++(rdOf ByteArray.empty l1 0))++(⟨#[32]⟩:ByteArray))++t363)++(⟨#[32]⟩:ByteArray)).size+(rdOf ByteArray.empty l1 1).size≤9223372036854775807
                ·rw[if_pos c37]at H;(try skip);(try have c37b3:(9223372036854775807<((((2+(rdOf ByteArray.empty l1 0).size)+1)+t363.size)+1)+(rdOf ByteArray.empty l1 1).size)=False:=eq_false (Nat.not_lt.2 (by have h_:=c37;simp only[ByteArray.size_append]at h_;exact h_)));by_cases c38:((((((⟨#[40,32]⟩:ByteArray)++(rdOf ByteArray.empty l1 0))++(⟨#[32]⟩:ByteArray))++t363)++(⟨#[32]⟩:ByteArray))++(rdOf ByteArray.empty l1 1)).size+2≤9223372036854775807
                 ·rw[if_pos c38]at H;(try skip);(try have c38b3:(9223372036854775807<(((((2+(rdOf ByteArray.empty l1 0).size)+1)+t363.size)+1)+(rdOf ByteArray.empty l1 1).size)+2)=False:=eq_false (Nat.not_lt.2 (by have h_:=c38;simp only[ByteArray.size_append]at h_;exact h_)));obtain rfl:=Option.some.inj H;have hcz39_0:=zc7_0 BK357.out;(try go_wp2);replace BK357:=zA (blk_drew BK357.out);replace HB:=zA (below_drew1 HB.out);have p362:0≤(0:Int):=(by omega);have q362:0<(l1.length:Int):=zD;obtain⟨ad362,e362,hx362_0⟩:=Kd.at_string HR1.out 0 p362 q362;have hw362_0:=hx362_0;(try rw[show((0:Int)).toNat=0 from rfl]at hw362_0);(try rw[Addr.add_zero']at hw362_0);cases e362
                  have qi362:(0<l1.length)=True:=eq_true (by omega);(try rw[show((0:Int)).toNat=0 from rfl]at hx362_0);(try rw[Addr.add_zero']at hx362_0);replace hx362_0:=zh HB.out hx362_0;replace p362:=eq_true p362;replace q362:=eq_true q362;have p364:0≤(1:Int):=(by omega);have q364:1<(l1.length:Int):=zD;obtain⟨ad364,e364,hx364_0⟩:=Kd.at_string HR1.out 1 p364 q364;have hw364_0:=hx364_0;(try rw[show((1:Int)).toNat=1 from rfl]at hw364_0);(try simp only[Nat.reduceMul,Nat.reduceEqDiff,Go.Addr.add,↓reduceIte]at hw364_0);obtain rfl:ad362=ad364:=(by injection e364);(try simp only[show(1:Int).toNat=1 from rfl,Nat.reduceMul,Nat.reduceEqDiff,Go.Addr.add,↓reduceIte]at hx364_0);have qi364:(1<l1.length)=True:=eq_true (by omega);replace hx364_0:=zh HB.out hx364_0;replace p364:=eq_true p364;replace q364:=eq_true q364;refine start_ (n:=16) (S:=fun w'=>w'.cell? ⟨gb357,0,none⟩=some (.int .i64 a0_0)∧w'.cell? ⟨gb357,1,none⟩=some (.int .i64 a0_1)∧w'.cell? ⟨gb357,2,none⟩=some (.string a0_2)∧w'.cell? ⟨gb357,3,none⟩=some (.string a0_3)∧w'.cell? ⟨gb357,4,none⟩=some (.string a0_4)∧w'.cell? ⟨gb357,5,none⟩=some (.string a0_5)∧w'.cell? ⟨gb357,6,none⟩=some (.int .i64 a0_6)∧w'.cell? ad362=some (.string (rdOf ByteArray.empty l1 0))∧w'.cell? ⟨ad362.block,ad362.off+1,none⟩=some (.string (rdOf ByteArray.empty l1 1))) (ds:= []) (zm 16 0) (by kernel_rfl) rfl rfl ⟨(blk_cell BK357.out 0).trans rfl,(blk_cell BK357.out 1).trans rfl,(blk_cell BK357.out 2).trans rfl,(blk_cell BK357.out 3).trans rfl,(blk_cell BK357.out 4).trans rfl,(blk_cell BK357.out 5).trans rfl,(blk_cell BK357.out 6).trans rfl,((HB.out.cell (World.block_lt_of_cell? w _ hw362_0)).trans hw362_0),((HB.out.cell (World.block_lt_of_cell? w _ hw364_0)).trans hw364_0)⟩ (fun hHeld=>?_);refine with_tabW formula_text.tab11 formula_text.bits11 (fun HT_ HW_=>?_);generalize wc.drew=w40 at BK357 HB hx362_0 hx364_0 hHeld ⊢;refine zV (i:=0) (N:=some 62) HT_ (zm 16 1) ?_;refine zV (i:=1) (N:=some 63) HT_ (zm 16 3) ?_;refine zV (i:=5) (N:=some 67) HT_ (zm 16 35) ?_;refine zV (i:=10) (N:=some 72) HT_ (zm 16 1059) ?_;refine zV (i:=11) (N:=some 73) HT_ (zm 16 3107) ?_
                  refine take_ (i:=2) (N:=some 64) (v:=?_) (a':=?_) (zm 16 3111) rfl rfl (take_ofW HT_.out HW_.out (by kernel_rfl)) (fun _ _ _ h=>h) (Or.inl ⟨by rfl,?_⟩) hHeld ?_ ?_;rotate_left
                  ·rintro w' ⟨s0,s1,s2,s3,s4,s5,s6,s7,s8⟩;go_simp;with_reducible rfl
                  rotate_left
                  ·simp only[Act.put,List.setIfInBounds_toArray,List.set_cons_zero,List.set_cons_succ,i64_w,i32_w];rfl
                  refine zV (i:=3) (N:=some 65) HT_ (zm 16 3119) ?_;refine zV (i:=4) (N:=some 66) HT_ (zm 16 3135) ?_
                  refine take_ (i:=6) (N:=some 68) (v:=?_) (a':=?_) (zm 16 3199) rfl rfl (take_ofW HT_.out HW_.out (by kernel_rfl)) (fun _ _ _ h=>h) (Or.inl ⟨by rfl,?_⟩) hHeld ?_ ?_;rotate_left
                  ·rintro w' ⟨s0,s1,s2,s3,s4,s5,s6,s7,s8⟩;go_simp;with_reducible rfl
                  rotate_left
                  ·simp only[Act.put,List.setIfInBounds_toArray,List.set_cons_zero,List.set_cons_succ,i64_w,i32_w];rfl
                  refine take_ (i:=12) (N:=some 74) (v:=?_) (a':=?_) (zm 16 7295) rfl rfl (take_ofW HT_.out HW_.out (by kernel_rfl)) (fun _ _ _ h=>h) (Or.inl ⟨by rfl,?_⟩) hHeld ?_ ?_;rotate_left
                  ·rintro w' ⟨s0,s1,s2,s3,s4,s5,s6,s7,s8⟩;go_simp;with_reducible rfl
                  rotate_left
                  ·simp only[Act.put,List.setIfInBounds_toArray,List.set_cons_zero,List.set_cons_succ,i64_w,i32_w];rfl
                  refine one_ (i:=7) (N:=some 69) (zm 16 7423) rfl rfl (one_of HT_.out (by kernel_rfl)) (by decide) (fun K hK=>?_);refine goes_ Try.func108 (by kernel_rfl) rfl #[.int .i64 a0_0] (by rfl) rfl rfl (by(try simp only[List.map_toArray,List.map_cons,List.map_nil]);rfl) ?_;(with_reducible refine(formula_sign.calls a0_0 t363 _ A33.out).mono ?_);rintro e w41 ⟨rfl,hb⟩;refine⟨_,rfl,?_⟩;replace BK357:=zB BK357.out hb;replace HB:=zS HB.out hb;(try clear hb);refine hK.out _ _ ⟨(blk_cell BK357.out 0).trans rfl,(blk_cell BK357.out 1).trans rfl,(blk_cell BK357.out 2).trans rfl,(blk_cell BK357.out 3).trans rfl,(blk_cell BK357.out 4).trans rfl,(blk_cell BK357.out 5).trans rfl,(blk_cell BK357.out 6).trans rfl,((HB.out.cell (World.block_lt_of_cell? w _ hw362_0)).trans hw362_0),((HB.out.cell (World.block_lt_of_cell? w _ hw364_0)).trans hw364_0)⟩ (fun hHeld=>?_);clear hK K;refine norm_ (a':=?_) ?_ ?_;rotate_left
                  ·(show Act.put _ (some 69) _=_);simp only[Act.put,List.setIfInBounds_toArray,List.set_cons_zero,List.set_cons_succ,i64_w,i32_w];rfl
                  refine zV (i:=8) (N:=some 70) HT_ (zm 16 7679) ?_;refine zV (i:=9) (N:=some 71) HT_ (zm 16 8191) ?_;refine zV (i:=13) (N:=some 75) HT_ (zm 16 16383) ?_;refine zV (i:=14) (N:=some 76) HT_ (zm 16 32767) ?_;refine zV (i:=15) (N:=some 4) HT_ (zm 16 65535) ?_
                  refine done_ (done_of HT_.out (by kernel_rfl)) ?_;(try go_wp2);go_ret;exact⟨by rfl,HB.out⟩
                 ·rw[if_neg c38]at H;exact absurd H (by simp)
                ·rw[if_neg c37]at H;exact absurd H (by simp)
               ·cases H
              ·rw[if_neg c35]at H;exact absurd H (by simp)
             ·rw[if_neg c34]at H;exact absurd H (by simp)
            ·rw[if_neg c32]at H;exact absurd H (by simp)
           ·rw[if_neg c31]at H;exact absurd H (by simp)
          ·cases H
         ·have H':=zA H;clear H;have hcz42_0:=zc7_0 BK357.out;go_wp2;go_meet;case rel=>exact⟨_,H',⟨by have:=HJ15.out;omega⟩,⟨by exact BK357.out⟩,⟨HB.out⟩⟩
        ·rw[if_neg c28]at H;have c28b0:decide (6≤a0_0)=false:=decide_eq_false c28;clear c28;have H':=zA H;clear H;have hcz43_0:=zc7_0 BK357.out;go_wp2;go_meet;case rel=>exact⟨_,H',⟨by have:=HJ15.out;omega⟩,⟨by exact BK357.out⟩,⟨HB.out⟩⟩
 case rest=>
  clear HC3;obtain⟨kq,HA,HJ2,BK357,HB⟩:=hcut;cases kq with
  |zero=>exact absurd HA.out (by simp[formula_text.j1])
  |succ kj2=>
   have H:=HA.out;clear HA;simp only[formula_text.j1]at H;obtain⟨t365,A44,H⟩:=zk H;by_cases c45:t365.size+3≤9223372036854775807
   ·rw[if_pos c45]at H;(try have c45b2:(9223372036854775807<t365.size+3)=False:=eq_false (Nat.not_lt.2 c45));have H':=zA H;clear H;have hcz46_0:=zc7_0 BK357.out;go_wp2_with (((with_reducible refine gate_callee (f:=108) rfl ?_);refine zY (some 79) Try.func108 (formula_sign.calls _ _ _ A44.out) ?_;rintro e w47 ⟨rfl,hb⟩;refine⟨_,rfl,?_⟩;replace BK357:=zB BK357.out hb;replace HB:=zS HB.out hb;(try clear hb)));go_loopg [7,83] kj2 (fun kq v7 v83 w'=> ∃ (x7_2:ByteArray) (x83_2:Int),v7= .string x7_2∧v83= .int .i64 x83_2∧Aside0 (formula_text.l0 kq x7_2 l1 (l1.length:Int) x83_2=some r)∧Aside0 (kq≤kj2)∧Aside0 (w'.heap[gb357]? =some (.cells #[.int .i64 a0_0,.int .i64 a0_1,.string a0_2,.string a0_3,.string a0_4,.string a0_5,.int .i64 a0_6] 112 (0,0)))∧Aside0 (Below w.heap.size w w'));(case atStart=>exact⟨(t365++(⟨#[32,40,32]⟩:ByteArray)),(0),(by rfl),(by rfl),H',⟨Nat.le_refl _⟩,⟨by exact BK357.out⟩,⟨HB.out⟩⟩);case round=>
     clear H';(try clear c45);(try clear c45b2);(try clear hcz46_0);obtain⟨x7_2,x83_2,rfl,rfl,HA,HK2,BK357,HB⟩:=hrel;cases gk with
     |zero=>exact absurd HA.out (by simp[formula_text.l0])
     |succ k2=>
      have H:=HA.out;clear HA;simp only[formula_text.l0]at H;obtain⟨c48b0,H⟩|⟨c48b0,H⟩:=zj H
      ·obtain⟨c49b0,H⟩|⟨_,H⟩:=zj H
       ·obtain⟨c50b0,H⟩|⟨_,H⟩:=zj H
        ·by_cases c51:x83_2>0
         ·rw[if_pos c51]at H;have c51b0:decide (0<x83_2)=true:=decide_eq_true c51;clear c51;by_cases c52:x7_2.size+3≤9223372036854775807
          ·rw[if_pos c52]at H;(try have c52b2:(9223372036854775807<x7_2.size+3)=False:=eq_false (Nat.not_lt.2 c52));by_cases c53:(x7_2++(⟨#[32,44,32]⟩:ByteArray)).size+(rdOf ByteArray.empty l1 x83_2).size≤9223372036854775807
           ·rw[if_pos c53]at H;(try skip);(try have c53b3:(9223372036854775807<(x7_2.size+3)+(rdOf ByteArray.empty l1 x83_2).size)=False:=eq_false (Nat.not_lt.2 (by have h_:=c53;simp only[ByteArray.size_append]at h_;exact h_)));have H':=zA H;clear H;have p366:0≤(x83_2:Int):=zD;have q366:x83_2<(l1.length:Int):=zD;obtain⟨ad366,e366,hx366_0⟩:=Kd.at_string HR1.out x83_2 p366 q366;cases e366
            replace hx366_0:=zh HB.out hx366_0;replace p366:=eq_true p366;replace q366:=eq_true q366;go_wp2;go_roundg k2;(case measure=>have:=HJ2.out;have:=HK2.out;omega);case rel=>exact⟨((x7_2++(⟨#[32,44,32]⟩:ByteArray))++(rdOf ByteArray.empty l1 x83_2)),(wrap64 (x83_2+1)),(by rfl),(by rfl),H',⟨by have:=HJ2.out;have:=HK2.out;omega⟩,⟨by exact BK357.out⟩,⟨HB.out⟩⟩
           ·rw[if_neg c53]at H;exact absurd H (by simp)
          ·rw[if_neg c52]at H;exact absurd H (by simp)
         ·rw[if_neg c51]at H;have c51b0:decide (0<x83_2)=false:=decide_eq_false c51;clear c51;by_cases c54:x7_2.size+(rdOf ByteArray.empty l1 x83_2).size≤9223372036854775807
          ·rw[if_pos c54]at H;(try have c54b2:(9223372036854775807<x7_2.size+(rdOf ByteArray.empty l1 x83_2).size)=False:=eq_false (Nat.not_lt.2 c54));have H':=zA H;clear H;have p366:0≤(x83_2:Int):=zD;have q366:x83_2<(l1.length:Int):=zD;obtain⟨ad366,e366,hx366_0⟩:=Kd.at_string HR1.out x83_2 p366 q366;cases e366
           replace hx366_0:=zh HB.out hx366_0;replace p366:=eq_true p366;replace q366:=eq_true q366;go_wp2;go_roundg k2;(case measure=>have:=HJ2.out;have:=HK2.out;omega);case rel=>exact⟨(x7_2++(rdOf ByteArray.empty l1 x83_2)),(wrap64 (x83_2+1)),(by rfl),(by rfl),H',⟨by have:=HJ2.out;have:=HK2.out;omega⟩,⟨by exact BK357.out⟩,⟨HB.out⟩⟩
          ·rw[if_neg c54]at H;exact absurd H (by simp)
        ·cases H
       ·cases H
      ·by_cases c55:x7_2.size+2≤9223372036854775807
       ·rw[if_pos c55]at H;(try have c55b2:(9223372036854775807<x7_2.size+2)=False:=eq_false (Nat.not_lt.2 c55));obtain rfl:=Option.some.inj H;go_wp2;go_ret;exact⟨by rfl,HB.out⟩
       ·rw[if_neg c55]at H;exact absurd H (by simp)
   ·rw[if_neg c45]at H;exact absurd H (by simp)
end Go.Proofs.Ytcfoebkbahpnaaa.L
