import Derived.Test.YtgabadlneeffkaaGreatDoorLJx0
import Derived.Test.YtgabadlneeffkaaGreatDoorLJx14
import Derived.Test.YtgabadlneeffkaaGreatDoorLJx15
namespace Go.Proofs.YtgabadlneeffkaaGreatDoor.G
open Go.RowKit Go.Proofs.YtgabadlneeffkaaGreatDoorW.PrintWords Go.Proofs.YtgabadlneeffkaaGreatDoorW.PrintLast Go.Proofs.YtgabadlneeffkaaGreatDoorW.PrintMore
attribute [local go_sem] max2_int min2_int max_two min_two max_three min_three max_four min_four
set_option linter.unusedVariables false
set_option maxHeartbeats 8000000
set_option maxRecDepth 100000
set_option linter.unusedSimpArgs false
mutual
def legationref11_Right.j0 : Nat → Bool → List ByteArray → List (List (S43)) → Option (Bool)
  | 0, _, _, _ => none
  | k + 1, x15, x299000, x299001 => if x15 = true then (some false) else (legationref11_Right.l0 k 0 x299000 x299001)
def legationref11_Right.l0 : Nat → Int → List ByteArray → List (List (S43)) → Option (Bool)
  | 0, _, _, _ => none
  | k + 1, x3, x299000, x299001 => if x3 < (x299000.length : Int) then (if 0 ≤ x3 then ((legationref01_IsName.f k (rdOf ByteArray.empty x299000 x3)).bind fun t300 => (if t300 = true then (if x3 ≤ (x299000.length : Int) then ((legationref03_In.f k (x299000.take (x3 : Int).toNat) (rdOf ByteArray.empty x299000 x3)).bind fun t303 => (if t303 = true then (some false) else (legationref11_Right.l0 k (wrap64 (x3 + 1)) x299000 x299001))) else (none)) else (some false))) else (none)) else (legationref11_Right.l1 k 0 x299000 x299001)
def legationref11_Right.l1 : Nat → Int → List ByteArray → List (List (S43)) → Option (Bool)
  | 0, _, _, _ => none
  | k + 1, x4, x299000, x299001 => if x4 < (x299001.length : Int) then (if 0 ≤ x4 then (if ((rd_L3 x299001 x4).length : Int) = (x299000.length : Int) then (legationref11_Right.l2 k x4 0 x299000 x299001) else (some false)) else (none)) else (some true)
def legationref11_Right.l2 : Nat → Int → Int → List ByteArray → List (List (S43)) → Option (Bool)
  | 0, _, _, _, _ => none
  | k + 1, x4, x5, x299000, x299001 => if 0 ≤ x4 then (if x4 < (x299001.length : Int) then (if x5 < ((rd_L3 x299001 x4).length : Int) then (if 0 ≤ x5 then ((legationref01_Right.f k ((rd_T43 (rd_L3 x299001 x4) x5).f0) ((rd_T43 (rd_L3 x299001 x4) x5).f1) ((rd_T43 (rd_L3 x299001 x4) x5).f2) ((rd_T43 (rd_L3 x299001 x4) x5).f3)).bind fun t308 => (if t308 = true then (if ((rd_T43 (rd_L3 x299001 x4) x5).f0) = 4 then (some false) else (legationref11_Right.l2 k x4 (wrap64 (x5 + 1)) x299000 x299001)) else (some false))) else (none)) else (legationref11_Right.l1 k (wrap64 (x4 + 1)) x299000 x299001)) else (none)) else (none)
end
def legationref11_Right.f (k : Nat) (l0_0 : List ByteArray) (l0_1 : List (List (S43))) : Option (Bool) := if (l0_0.length : Int) > 32 then (legationref11_Right.j0 k true l0_0 l0_1) else (legationref11_Right.j0 k (decide ((l0_1.length : Int) > 4096)) l0_0 l0_1)
def legationref11_Right.T6 : Bool × List (List Nat × List Nat) := (true, [([], []), ([0], [0]), ([], []), ([1, 2], [1, 2]), ([3], [3]), ([4], [4]), ([5], [5]), ([6, 5], [6]), ([7], [7]), ([8, 7], [7, 8]), ([7], [7]), ([9, 10, 7], [7, 9, 10]), ([7], [7]), ([12, 7], [7, 12]), ([7], [7]), ([13, 14, 7], [7, 13, 14]), ([15, 7], [7, 15]), ([11, 16, 7, 7], [7, 11, 16]), ([7, 17], [7, 17])])
def legationref11_Right.B6 : List Nat := [0, 1, 0, 7, 15, 31, 63, 127, 255, 511, 255, 2047, 255, 4351, 255, 28927, 61695, 131071, 262143]
theorem legationref11_Right.tab6:rtab .any (opsOf Tryz.f37 6)=legationref11_Right.T6:=by kernel_rfl
theorem legationref11_Right.bits6:waitsOk legationref11_Right.T6.2 legationref11_Right.B6=true:=by kernel_rfl
def legationref11_Right.T11 : Bool × List (List Nat × List Nat) := (true, [([], []), ([0], [0]), ([], []), ([1, 2], [1, 2]), ([3], [3]), ([4], [4]), ([], []), ([6], [6]), ([7], [7]), ([5, 8], [5, 8])])
def legationref11_Right.B11 : List Nat := [0, 1, 0, 7, 15, 31, 0, 64, 192, 511]
theorem legationref11_Right.tab11:rtab .any (opsOf Tryz.f37 11)=legationref11_Right.T11:=by kernel_rfl
theorem legationref11_Right.bits11:waitsOk legationref11_Right.T11.2 legationref11_Right.B11=true:=by kernel_rfl
theorem legationref11_Right.calls (k:Nat) (A0_0:Option Addr) (c0_0:Nat) (l0_0:List ByteArray) (A0_1:Option Addr) (c0_1:Nat) (l0_1:List (List (S43))) (r:Bool) (w:World) (hr0_0:Kd.C Kd.string w A0_0 l0_0.length l0_0) (hc0_0:l0_0.length≤c0_0) (hr0_1:Kd.C (Kd.slice 43 k43) w A0_1 l0_1.length l0_1) (hc0_1:l0_1.length≤c0_1) (h:legationref11_Right.f k l0_0 l0_1=some r):
 Calls Tryz.prog 37 #[.agg #[.slice A0_0 l0_0.length c0_0,.slice A0_1 l0_1.length c0_1]] w fun e w'=>e= .returned (.bool r)∧Below w.heap.size w w':=by
 have HR0_0:=zA hr0_0;have HC0_0:=zA hc0_0;clear hr0_0 hc0_0;have HR0_1:=zA hr0_1;have HC0_1:=zA hc0_1;clear hr0_1 hc0_1;have HB:=zA (Below.refl w.heap.size w);have H:(if(l0_0.length:Int)>32 then(legationref11_Right.j0 k true l0_0 l0_1)else(legationref11_Right.j0 k (decide ((l0_1.length:Int)>4096)) l0_0 l0_1))=some r:=h;clear h;have HC2:=zA H;clear H;go_enter Tryz.func37,Tryz.ntmps37;go_upto_region 1 with (((with_reducible refine gate_dst (N:=1) rfl ?_);(try(refine gate_guard (by rfl) ?_;dsimp only));refine zE #[.slice A0_0 l0_0.length c0_0,.slice A0_1 l0_1.length c0_1] 25 ?_;intro gb298 hg w3 hbox hb;have BK298:=zA hbox;have GW298:=zZ HB.out hg;replace HB:=zS HB.out hb;clear hb hbox hg))
 go_cut [15] (fun v15 wc=> ∃ (kq:Nat) (x15_1:Bool),v15= .bool x15_1∧Aside0 (legationref11_Right.j0 kq x15_1 l0_0 l0_1=some r)∧Aside0 (kq≤k)∧Aside0 (wc.heap[gb298]? =some (.cells #[(.slice A0_0 l0_0.length c0_0),(.slice A0_1 l0_1.length c0_1)] 25 (0,0)))∧Aside0 (Below w.heap.size w wc));case first=>
  have H:=HC2.out;clear HC2;by_cases c4:(l0_0.length:Int)>32
  ·rw[if_pos c4]at H;have c4b0:decide (32<(l0_0.length:Int))=true:=decide_eq_true c4;clear c4;have H':=zA H;clear H;have hcz5_0:=zc20 BK298.out;go_wp2;go_meet;case rel=>exact⟨_,(true),(by rfl),H',⟨by omega⟩,⟨by exact BK298.out⟩,⟨HB.out⟩⟩
  ·rw[if_neg c4]at H;have c4b0:decide (32<(l0_0.length:Int))=false:=decide_eq_false c4;clear c4;have H':=zA H;clear H;have hcz6_0:=zc20 BK298.out;have hcz6_1:=zc21 BK298.out;go_wp2;go_meet;case rel=>exact⟨_,(decide ((l0_1.length:Int)>4096)),(by rfl),H',⟨by omega⟩,⟨by exact BK298.out⟩,⟨HB.out⟩⟩
 case rest=>
  clear HC2;obtain⟨kq,x15_1,rfl,HA,HJ1,BK298,HB⟩:=hcut;cases kq with
  |zero=>exact absurd HA.out (by simp[legationref11_Right.j0])
  |succ kj1=>
   have H:=HA.out;clear HA;simp only[legationref11_Right.j0]at H;by_cases c7:x15_1=true
   ·subst c7;rw[if_pos rfl]at H;obtain rfl:=Option.some.inj H;go_wp2;go_ret;exact⟨by rfl,HB.out⟩
   ·replace c7:=Bool.eq_false_iff.mpr c7;subst c7;rw[if_neg (show ¬(false=true)by decide)]at H;have H':=zA H;clear H;go_wp2;go_loopg [3] kj1 (fun kq v3 w'=> ∃ (x3_2:Int),v3= .int .i64 x3_2∧Aside0 (legationref11_Right.l0 kq x3_2 l0_0 l0_1=some r)∧Aside0 (kq≤kj1)∧Aside0 (w'.heap[gb298]? =some (.cells #[(.slice A0_0 l0_0.length c0_0),(.slice A0_1 l0_1.length c0_1)] 25 (0,0)))∧Aside0 (Below w.heap.size w w'));(case atStart=>exact⟨(0),(by rfl),H',⟨Nat.le_refl _⟩,⟨by exact BK298.out⟩,⟨HB.out⟩⟩);case round=>
     clear H';obtain⟨x3_2,rfl,HA,HK2,BK298,HB⟩:=hrel;cases gk with
     |zero=>exact absurd HA.out (by simp[legationref11_Right.l0])
     |succ k2=>
      have H:=HA.out;clear HA;simp only[legationref11_Right.l0]at H;by_cases c8:x3_2<(l0_0.length:Int)
      ·rw[if_pos c8]at H;have c8b0:decide (x3_2<(l0_0.length:Int))=true:=decide_eq_true c8;clear c8;by_cases c9:0≤x3_2
       ·rw[if_pos c9]at H;have c9b0:decide (0≤x3_2)=true:=decide_eq_true c9;clear c9;replace H:=zO H;obtain⟨t300,A100,H⟩:=H;have A10:=zA A100;clear A100;by_cases c11:t300=true
        ·subst c11;rw[if_pos rfl]at H;have c12b0:=eq_true (zD:0≤x3_2);by_cases c13:x3_2≤(l0_0.length:Int)
         ·rw[if_pos c13]at H;have c13b0:=eq_true c13;have c13b1:decide (x3_2≤(l0_0.length:Int))=true:=decide_eq_true c13;clear c13;replace H:=zO H;obtain⟨t303,A140,H⟩:=H;have A14:=zA A140;clear A140;by_cases c15:t303=true
          ·subst c15;rw[if_pos rfl]at H;obtain rfl:=Option.some.inj H;have hcz16_0:=zc20 BK298.out;(try go_wp2);replace BK298:=zA (blk_drew BK298.out);replace HB:=zA (below_drew1 HB.out);have p299:0≤(x3_2:Int):=zD;have q299:x3_2<(l0_0.length:Int):=zD;obtain⟨ad299,e299,hx299_0⟩:=Kd.at_string HR0_0.out x3_2 p299 q299;have hw299_0:=hx299_0;cases e299
           replace hx299_0:=(HB.out.cell (World.block_lt_of_cell? w _ hx299_0)).trans hx299_0;replace p299:=eq_true p299;replace q299:=eq_true q299;have p302:0≤(x3_2:Int):=zD;have q302:x3_2<(l0_0.length:Int):=zD;obtain⟨ad302,e302,hx302_0⟩:=Kd.at_string HR0_0.out x3_2 p302 q302;have hw302_0:=hx302_0;obtain rfl:ad299=ad302:=(by injection e302);replace hx302_0:=(HB.out.cell (World.block_lt_of_cell? w _ hx302_0)).trans hx302_0;replace p302:=eq_true p302;replace q302:=eq_true q302;refine start_ (n:=19) (S:=fun w'=>w'.cell? ⟨gb298,0,none⟩=some (.slice (some ad299) l0_0.length c0_0)∧w'.cell? ⟨gb298,1,none⟩=some (.slice A0_1 l0_1.length c0_1)∧w'.cell? (ad299.add (x3_2).toNat)=some (.string (rdOf ByteArray.empty l0_0 x3_2))∧w'.cell? (ad299.add (x3_2).toNat)=some (.string (rdOf ByteArray.empty l0_0 x3_2))) (ds:= []) #[false,false,false,false,false,false,false,false,false,false,false,false,false,false,false,false,false,false,false] (by kernel_rfl) rfl rfl ⟨(blk_cell BK298.out 0).trans rfl,(blk_cell BK298.out 1).trans rfl,((HB.out.cell (World.block_lt_of_cell? w _ hw299_0)).trans hw299_0),((HB.out.cell (World.block_lt_of_cell? w _ hw302_0)).trans hw302_0)⟩ (fun hHeld=>?_);refine with_tabW legationref11_Right.tab6 legationref11_Right.bits6 (fun HT_ HW_=>?_);generalize wr.drew=w17 at BK298 HB hx299_0 hx302_0 hHeld ⊢;refine pure_ (i:=0) (N:=some 23) (v:=?_) (a':=?_) #[true,false,false,false,false,false,false,false,false,false,false,false,false,false,false,false,false,false,false] rfl rfl (any_of HT_.out (by kernel_rfl)) (fun _ _ _ h=>h) (Or.inl ⟨by rfl,?_⟩) ?_ ?_;rotate_left
           ·intro w';go_simp;with_reducible rfl
           rotate_left
           ·simp only[Act.put,List.setIfInBounds_toArray,List.set_cons_zero,List.set_cons_succ,i64_w,i32_w];rfl
           refine pure_ (i:=2) (N:=some 25) (v:=?_) (a':=?_) #[true,false,true,false,false,false,false,false,false,false,false,false,false,false,false,false,false,false,false] rfl rfl (any_of HT_.out (by kernel_rfl)) (fun _ _ _ h=>h) (Or.inl ⟨by rfl,?_⟩) ?_ ?_;rotate_left
           ·intro w';go_simp;with_reducible rfl
           rotate_left
           ·simp only[Act.put,List.setIfInBounds_toArray,List.set_cons_zero,List.set_cons_succ,i64_w,i32_w];rfl
           refine take_ (i:=1) (N:=some 24) (v:=?_) (a':=?_) #[true,true,true,false,false,false,false,false,false,false,false,false,false,false,false,false,false,false,false] rfl rfl (take_ofW HT_.out HW_.out (by kernel_rfl)) (fun _ _ _ h=>h) (Or.inl ⟨by rfl,?_⟩) hHeld ?_ ?_;rotate_left
           ·rintro w' ⟨s0,s1,s2,s3⟩;go_simp;with_reducible rfl
           rotate_left
           ·simp only[Act.put,List.setIfInBounds_toArray,List.set_cons_zero,List.set_cons_succ,i64_w,i32_w];rfl
           refine pure_ (i:=3) (N:=some 26) (v:=?_) (a':=?_) #[true,true,true,true,false,false,false,false,false,false,false,false,false,false,false,false,false,false,false] rfl rfl (any_of HT_.out (by kernel_rfl)) (fun _ _ _ h=>h) (Or.inl ⟨by rfl,?_⟩) ?_ ?_;rotate_left
           ·intro w';go_simp;with_reducible rfl
           rotate_left
           ·simp only[Act.put,List.setIfInBounds_toArray,List.set_cons_zero,List.set_cons_succ,i64_w,i32_w];rfl
           refine take_ (i:=4) (N:=some 27) (v:=?_) (a':=?_) #[true,true,true,true,true,false,false,false,false,false,false,false,false,false,false,false,false,false,false] rfl rfl (take_ofW HT_.out HW_.out (by kernel_rfl)) (fun _ _ _ h=>h) (Or.inl ⟨by rfl,?_⟩) hHeld ?_ ?_;rotate_left
           ·rintro w' ⟨s0,s1,s2,s3⟩;go_simp;with_reducible rfl
           rotate_left
           ·simp only[Act.put,List.setIfInBounds_toArray,List.set_cons_zero,List.set_cons_succ,i64_w,i32_w];rfl
           refine one_ (i:=5) (N:=some 28) #[true,true,true,true,true,true,false,false,false,false,false,false,false,false,false,false,false,false,false] rfl rfl (one_of HT_.out (by kernel_rfl)) (by decide) (fun K hK=>?_);refine goes_ Tryz.func61 (by kernel_rfl) rfl #[.string (rdOf ByteArray.empty l0_0 x3_2)] (by rfl) rfl rfl (by(try simp only[List.map_toArray,List.map_cons,List.map_nil]);rfl) ?_;(with_reducible refine(legationref01_IsName.calls k2 (rdOf ByteArray.empty l0_0 x3_2) true _ A10.out).mono ?_);rintro e w' ⟨rfl,⟨nd,rfl⟩⟩;refine⟨_,rfl,?_⟩;obtain⟨i018,hi018,_,hsz18,_⟩:=info_parts info9;obtain⟨hcut18,hA18,hC18⟩:=print_take_of (P:=Tryz.prog) Value.string ⟨#[]⟩ 22 9 .i64 Tryz.underlying22 hi018 hsz18 (some ad299) c0_0 l0_0 x3_2 (zD) (zD) HC0_0.out;have HR301:=zA (Kd.C_of_reads (h1:=fun _=>rfl) (hA18 _ (Kd.reads_of_C HR0_0.out)));have HC301:=zA hC18;clear hA18 hC18 hi018 hsz18;refine hK.out _ _ ⟨(blk_cell BK298.out 0).trans rfl,(blk_cell BK298.out 1).trans rfl,((HB.out.cell (World.block_lt_of_cell? w _ hw299_0)).trans hw299_0),((HB.out.cell (World.block_lt_of_cell? w _ hw302_0)).trans hw302_0)⟩ (fun hHeld=>?_);clear hK K;refine norm_ (a':=?_) ?_ ?_;rotate_left
           ·(show Act.put _ (some 28) _=_);simp only[Act.put,List.setIfInBounds_toArray,List.set_cons_zero,List.set_cons_succ,i64_w,i32_w];rfl
           refine pure_ (i:=6) (N:=some 29) (v:=?_) (a':=?_) #[true,true,true,true,true,true,true,false,false,false,false,false,false,false,false,false,false,false,false] rfl rfl (any_of HT_.out (by kernel_rfl)) (fun _ _ _ h=>h) (Or.inl ⟨by rfl,?_⟩) ?_ ?_;rotate_left
           ·intro w';go_simp;with_reducible rfl
           rotate_left
           ·simp only[Act.put,List.setIfInBounds_toArray,List.set_cons_zero,List.set_cons_succ,i64_w,i32_w];rfl
           refine pure_ (i:=7) (N:=some 30) (v:=?_) (a':=?_) #[true,true,true,true,true,true,true,true,false,false,false,false,false,false,false,false,false,false,false] rfl rfl (any_of HT_.out (by kernel_rfl)) (fun _ _ _ h=>h) (Or.inl ⟨by rfl,?_⟩) ?_ ?_;rotate_left
           ·intro w';go_simp;with_reducible rfl
           rotate_left
           ·simp only[Act.put,List.setIfInBounds_toArray,List.set_cons_zero,List.set_cons_succ,i64_w,i32_w];rfl
           refine pure_ (i:=8) (N:=some 31) (v:=?_) (a':=?_) #[true,true,true,true,true,true,true,true,true,false,false,false,false,false,false,false,false,false,false] rfl rfl (any_of HT_.out (by kernel_rfl)) (fun _ _ _ h=>h) (Or.inl ⟨by rfl,?_⟩) ?_ ?_;rotate_left
           ·intro w';go_simp;with_reducible rfl
           rotate_left
           ·simp only[Act.put,List.setIfInBounds_toArray,List.set_cons_zero,List.set_cons_succ,i64_w,i32_w];rfl
           refine pure_ (i:=10) (N:=some 33) (v:=?_) (a':=?_) #[true,true,true,true,true,true,true,true,true,false,true,false,false,false,false,false,false,false,false] rfl rfl (any_of HT_.out (by kernel_rfl)) (fun _ _ _ h=>h) (Or.inl ⟨by rfl,?_⟩) ?_ ?_;rotate_left
           ·intro w';go_simp;with_reducible rfl
           rotate_left
           ·simp only[Act.put,List.setIfInBounds_toArray,List.set_cons_zero,List.set_cons_succ,i64_w,i32_w];rfl
           refine pure_ (i:=12) (N:=some 35) (v:=?_) (a':=?_) #[true,true,true,true,true,true,true,true,true,false,true,false,true,false,false,false,false,false,false] rfl rfl (any_of HT_.out (by kernel_rfl)) (fun _ _ _ h=>h) (Or.inl ⟨by rfl,?_⟩) ?_ ?_;rotate_left
           ·intro w';go_simp;with_reducible rfl
           rotate_left
           ·simp only[Act.put,List.setIfInBounds_toArray,List.set_cons_zero,List.set_cons_succ,i64_w,i32_w];rfl
           refine pure_ (i:=14) (N:=some 37) (v:=?_) (a':=?_) #[true,true,true,true,true,true,true,true,true,false,true,false,true,false,true,false,false,false,false] rfl rfl (any_of HT_.out (by kernel_rfl)) (fun _ _ _ h=>h) (Or.inl ⟨by rfl,?_⟩) ?_ ?_;rotate_left
           ·intro w';go_simp;with_reducible rfl
           rotate_left
           ·simp only[Act.put,List.setIfInBounds_toArray,List.set_cons_zero,List.set_cons_succ,i64_w,i32_w];rfl
           refine take_ (i:=9) (N:=some 32) (v:=?_) (a':=?_) #[true,true,true,true,true,true,true,true,true,true,true,false,true,false,true,false,false,false,false] rfl rfl (take_ofW HT_.out HW_.out (by kernel_rfl)) (fun _ _ _ h=>h) (Or.inl ⟨by rfl,?_⟩) hHeld ?_ ?_;rotate_left
           ·rintro w' ⟨s0,s1,s2,s3⟩;go_simp;with_reducible rfl
           rotate_left
           ·simp only[Act.put,List.setIfInBounds_toArray,List.set_cons_zero,List.set_cons_succ,i64_w,i32_w];rfl
           refine pure_ (i:=11) (N:=some 34) (v:=?_) (a':=?_) #[true,true,true,true,true,true,true,true,true,true,true,true,true,false,true,false,false,false,false] rfl rfl (any_of HT_.out (by kernel_rfl)) (fun _ _ _ h=>h) (Or.inl ⟨by rfl,?_⟩) ?_ ?_;rotate_left
           ·intro w';go_simp;with_reducible rfl
           rotate_left
           ·simp only[Act.put,List.setIfInBounds_toArray,List.set_cons_zero,List.set_cons_succ,i64_w,i32_w];rfl
           refine take_ (i:=13) (N:=some 36) (v:=?_) (a':=?_) #[true,true,true,true,true,true,true,true,true,true,true,true,true,true,true,false,false,false,false] rfl rfl (take_ofW HT_.out HW_.out (by kernel_rfl)) (fun _ _ _ h=>h) (Or.inl ⟨by rfl,?_⟩) hHeld ?_ ?_;rotate_left
           ·rintro w' ⟨s0,s1,s2,s3⟩;go_simp;with_reducible rfl
           rotate_left
           ·simp only[Act.put,List.setIfInBounds_toArray,List.set_cons_zero,List.set_cons_succ,i64_w,i32_w];rfl
           refine pure_ (i:=15) (N:=some 38) (v:=?_) (a':=?_) #[true,true,true,true,true,true,true,true,true,true,true,true,true,true,true,true,false,false,false] rfl rfl (any_of HT_.out (by kernel_rfl)) (fun _ _ _ h=>h) (Or.inl ⟨by rfl,?_⟩) ?_ ?_;rotate_left
           ·intro w';go_simp;with_reducible rfl
           rotate_left
           ·simp only[Act.put,List.setIfInBounds_toArray,List.set_cons_zero,List.set_cons_succ,i64_w,i32_w];rfl
           refine take_ (i:=16) (N:=some 39) (v:=?_) (a':=?_) #[true,true,true,true,true,true,true,true,true,true,true,true,true,true,true,true,true,false,false] rfl rfl (take_ofW HT_.out HW_.out (by kernel_rfl)) (fun _ _ _ h=>h) (Or.inl ⟨by rfl,?_⟩) hHeld ?_ ?_;rotate_left
           ·rintro w' ⟨s0,s1,s2,s3⟩;go_simp;with_reducible rfl
           rotate_left
           ·simp only[Act.put,List.setIfInBounds_toArray,List.set_cons_zero,List.set_cons_succ,i64_w,i32_w];rfl
           refine one_ (i:=17) (N:=some 40) #[true,true,true,true,true,true,true,true,true,true,true,true,true,true,true,true,true,true,false] rfl rfl (one_of HT_.out (by kernel_rfl)) (by decide) (fun K hK=>?_);refine goes_ Tryz.func62 (by kernel_rfl) rfl #[.slice (some ad299) (l0_0.take (x3_2:Int).toNat).length c0_0,.string (rdOf ByteArray.empty l0_0 x3_2)] (by rfl) rfl rfl (by(try simp only[List.map_toArray,List.map_cons,List.map_nil]);(rw[show(l0_0.take (x3_2:Int).toNat).length=x3_2.toNat from(by rw[List.length_take];have h_:(x3_2:Int)≤(l0_0.length:Int):=zD;omega)]<;>rfl)) ?_;(with_reducible refine(legationref03_In.calls k2 _ _ (l0_0.take (x3_2:Int).toNat) (rdOf ByteArray.empty l0_0 x3_2) true _ ?side1 ?side2 A14.out).mono ?_);(case side1=>repeat(exact(Kd.C_below HR301.out (by repeat((with_reducible first|exact HB.out|apply pw_below_drewN))))));(case side2=>exact HC301.out);rintro e w' ⟨rfl,⟨nd,rfl⟩⟩;refine⟨_,rfl,?_⟩;refine hK.out _ _ ⟨(blk_cell BK298.out 0).trans rfl,(blk_cell BK298.out 1).trans rfl,((HB.out.cell (World.block_lt_of_cell? w _ hw299_0)).trans hw299_0),((HB.out.cell (World.block_lt_of_cell? w _ hw302_0)).trans hw302_0)⟩ (fun hHeld=>?_);clear hK K;refine norm_ (a':=?_) ?_ ?_;rotate_left
           ·(show Act.put _ (some 40) _=_);simp only[Act.put,List.setIfInBounds_toArray,List.set_cons_zero,List.set_cons_succ,i64_w,i32_w];rfl
           refine pure_ (i:=18) (N:=some 41) (v:=?_) (a':=?_) #[true,true,true,true,true,true,true,true,true,true,true,true,true,true,true,true,true,true,true] rfl rfl (any_of HT_.out (by kernel_rfl)) (fun _ _ _ h=>h) (Or.inl ⟨by rfl,?_⟩) ?_ ?_;rotate_left
           ·intro w';go_simp;with_reducible rfl
           rotate_left
           ·simp only[Act.put,List.setIfInBounds_toArray,List.set_cons_zero,List.set_cons_succ,i64_w,i32_w];rfl
           refine done_ (done_of HT_.out (by kernel_rfl)) ?_;(try go_wp2);go_ret;exact⟨by rfl,by repeat((with_reducible first|exact HB.out|apply pw_below_drewN))⟩
          ·replace c15:=Bool.eq_false_iff.mpr c15;subst c15;rw[if_neg (show ¬(false=true)by decide)]at H;have H':=zA H;clear H;have hcz19_0:=zc20 BK298.out;(try go_wp2);replace BK298:=zA (blk_drew BK298.out);replace HB:=zA (below_drew1 HB.out);have p299:0≤(x3_2:Int):=zD;have q299:x3_2<(l0_0.length:Int):=zD;obtain⟨ad299,e299,hx299_0⟩:=Kd.at_string HR0_0.out x3_2 p299 q299;have hw299_0:=hx299_0;cases e299
           replace hx299_0:=(HB.out.cell (World.block_lt_of_cell? w _ hx299_0)).trans hx299_0;replace p299:=eq_true p299;replace q299:=eq_true q299;have p302:0≤(x3_2:Int):=zD;have q302:x3_2<(l0_0.length:Int):=zD;obtain⟨ad302,e302,hx302_0⟩:=Kd.at_string HR0_0.out x3_2 p302 q302;have hw302_0:=hx302_0;obtain rfl:ad299=ad302:=(by injection e302);replace hx302_0:=(HB.out.cell (World.block_lt_of_cell? w _ hx302_0)).trans hx302_0;replace p302:=eq_true p302;replace q302:=eq_true q302;refine start_ (n:=19) (S:=fun w'=>w'.cell? ⟨gb298,0,none⟩=some (.slice (some ad299) l0_0.length c0_0)∧w'.cell? ⟨gb298,1,none⟩=some (.slice A0_1 l0_1.length c0_1)∧w'.cell? (ad299.add (x3_2).toNat)=some (.string (rdOf ByteArray.empty l0_0 x3_2))∧w'.cell? (ad299.add (x3_2).toNat)=some (.string (rdOf ByteArray.empty l0_0 x3_2))) (ds:= []) #[false,false,false,false,false,false,false,false,false,false,false,false,false,false,false,false,false,false,false] (by kernel_rfl) rfl rfl ⟨(blk_cell BK298.out 0).trans rfl,(blk_cell BK298.out 1).trans rfl,((HB.out.cell (World.block_lt_of_cell? w _ hw299_0)).trans hw299_0),((HB.out.cell (World.block_lt_of_cell? w _ hw302_0)).trans hw302_0)⟩ (fun hHeld=>?_);refine with_tabW legationref11_Right.tab6 legationref11_Right.bits6 (fun HT_ HW_=>?_);generalize wr.drew=w20 at BK298 HB hx299_0 hx302_0 hHeld ⊢;refine pure_ (i:=0) (N:=some 23) (v:=?_) (a':=?_) #[true,false,false,false,false,false,false,false,false,false,false,false,false,false,false,false,false,false,false] rfl rfl (any_of HT_.out (by kernel_rfl)) (fun _ _ _ h=>h) (Or.inl ⟨by rfl,?_⟩) ?_ ?_;rotate_left
           ·intro w';go_simp;with_reducible rfl
           rotate_left
           ·simp only[Act.put,List.setIfInBounds_toArray,List.set_cons_zero,List.set_cons_succ,i64_w,i32_w];rfl
           refine pure_ (i:=2) (N:=some 25) (v:=?_) (a':=?_) #[true,false,true,false,false,false,false,false,false,false,false,false,false,false,false,false,false,false,false] rfl rfl (any_of HT_.out (by kernel_rfl)) (fun _ _ _ h=>h) (Or.inl ⟨by rfl,?_⟩) ?_ ?_;rotate_left
           ·intro w';go_simp;with_reducible rfl
           rotate_left
           ·simp only[Act.put,List.setIfInBounds_toArray,List.set_cons_zero,List.set_cons_succ,i64_w,i32_w];rfl
           refine take_ (i:=1) (N:=some 24) (v:=?_) (a':=?_) #[true,true,true,false,false,false,false,false,false,false,false,false,false,false,false,false,false,false,false] rfl rfl (take_ofW HT_.out HW_.out (by kernel_rfl)) (fun _ _ _ h=>h) (Or.inl ⟨by rfl,?_⟩) hHeld ?_ ?_;rotate_left
           ·rintro w' ⟨s0,s1,s2,s3⟩;go_simp;with_reducible rfl
           rotate_left
           ·simp only[Act.put,List.setIfInBounds_toArray,List.set_cons_zero,List.set_cons_succ,i64_w,i32_w];rfl
           refine pure_ (i:=3) (N:=some 26) (v:=?_) (a':=?_) #[true,true,true,true,false,false,false,false,false,false,false,false,false,false,false,false,false,false,false] rfl rfl (any_of HT_.out (by kernel_rfl)) (fun _ _ _ h=>h) (Or.inl ⟨by rfl,?_⟩) ?_ ?_;rotate_left
           ·intro w';go_simp;with_reducible rfl
           rotate_left
           ·simp only[Act.put,List.setIfInBounds_toArray,List.set_cons_zero,List.set_cons_succ,i64_w,i32_w];rfl
           refine take_ (i:=4) (N:=some 27) (v:=?_) (a':=?_) #[true,true,true,true,true,false,false,false,false,false,false,false,false,false,false,false,false,false,false] rfl rfl (take_ofW HT_.out HW_.out (by kernel_rfl)) (fun _ _ _ h=>h) (Or.inl ⟨by rfl,?_⟩) hHeld ?_ ?_;rotate_left
           ·rintro w' ⟨s0,s1,s2,s3⟩;go_simp;with_reducible rfl
           rotate_left
           ·simp only[Act.put,List.setIfInBounds_toArray,List.set_cons_zero,List.set_cons_succ,i64_w,i32_w];rfl
           refine one_ (i:=5) (N:=some 28) #[true,true,true,true,true,true,false,false,false,false,false,false,false,false,false,false,false,false,false] rfl rfl (one_of HT_.out (by kernel_rfl)) (by decide) (fun K hK=>?_);refine goes_ Tryz.func61 (by kernel_rfl) rfl #[.string (rdOf ByteArray.empty l0_0 x3_2)] (by rfl) rfl rfl (by(try simp only[List.map_toArray,List.map_cons,List.map_nil]);rfl) ?_;(with_reducible refine(legationref01_IsName.calls k2 (rdOf ByteArray.empty l0_0 x3_2) true _ A10.out).mono ?_);rintro e w' ⟨rfl,⟨nd,rfl⟩⟩;refine⟨_,rfl,?_⟩;obtain⟨i021,hi021,_,hsz21,_⟩:=info_parts info9;obtain⟨hcut21,hA21,hC21⟩:=print_take_of (P:=Tryz.prog) Value.string ⟨#[]⟩ 22 9 .i64 Tryz.underlying22 hi021 hsz21 (some ad299) c0_0 l0_0 x3_2 (zD) (zD) HC0_0.out;have HR301:=zA (Kd.C_of_reads (h1:=fun _=>rfl) (hA21 _ (Kd.reads_of_C HR0_0.out)));have HC301:=zA hC21;clear hA21 hC21 hi021 hsz21;refine hK.out _ _ ⟨(blk_cell BK298.out 0).trans rfl,(blk_cell BK298.out 1).trans rfl,((HB.out.cell (World.block_lt_of_cell? w _ hw299_0)).trans hw299_0),((HB.out.cell (World.block_lt_of_cell? w _ hw302_0)).trans hw302_0)⟩ (fun hHeld=>?_);clear hK K;refine norm_ (a':=?_) ?_ ?_;rotate_left
           ·(show Act.put _ (some 28) _=_);simp only[Act.put,List.setIfInBounds_toArray,List.set_cons_zero,List.set_cons_succ,i64_w,i32_w];rfl
           refine pure_ (i:=6) (N:=some 29) (v:=?_) (a':=?_) #[true,true,true,true,true,true,true,false,false,false,false,false,false,false,false,false,false,false,false] rfl rfl (any_of HT_.out (by kernel_rfl)) (fun _ _ _ h=>h) (Or.inl ⟨by rfl,?_⟩) ?_ ?_;rotate_left
           ·intro w';go_simp;with_reducible rfl
           rotate_left
           ·simp only[Act.put,List.setIfInBounds_toArray,List.set_cons_zero,List.set_cons_succ,i64_w,i32_w];rfl
           refine pure_ (i:=7) (N:=some 30) (v:=?_) (a':=?_) #[true,true,true,true,true,true,true,true,false,false,false,false,false,false,false,false,false,false,false] rfl rfl (any_of HT_.out (by kernel_rfl)) (fun _ _ _ h=>h) (Or.inl ⟨by rfl,?_⟩) ?_ ?_;rotate_left
           ·intro w';go_simp;with_reducible rfl
           rotate_left
           ·simp only[Act.put,List.setIfInBounds_toArray,List.set_cons_zero,List.set_cons_succ,i64_w,i32_w];rfl
           refine pure_ (i:=8) (N:=some 31) (v:=?_) (a':=?_) #[true,true,true,true,true,true,true,true,true,false,false,false,false,false,false,false,false,false,false] rfl rfl (any_of HT_.out (by kernel_rfl)) (fun _ _ _ h=>h) (Or.inl ⟨by rfl,?_⟩) ?_ ?_;rotate_left
           ·intro w';go_simp;with_reducible rfl
           rotate_left
           ·simp only[Act.put,List.setIfInBounds_toArray,List.set_cons_zero,List.set_cons_succ,i64_w,i32_w];rfl
           refine pure_ (i:=10) (N:=some 33) (v:=?_) (a':=?_) #[true,true,true,true,true,true,true,true,true,false,true,false,false,false,false,false,false,false,false] rfl rfl (any_of HT_.out (by kernel_rfl)) (fun _ _ _ h=>h) (Or.inl ⟨by rfl,?_⟩) ?_ ?_;rotate_left
           ·intro w';go_simp;with_reducible rfl
           rotate_left
           ·simp only[Act.put,List.setIfInBounds_toArray,List.set_cons_zero,List.set_cons_succ,i64_w,i32_w];rfl
           refine pure_ (i:=12) (N:=some 35) (v:=?_) (a':=?_) #[true,true,true,true,true,true,true,true,true,false,true,false,true,false,false,false,false,false,false] rfl rfl (any_of HT_.out (by kernel_rfl)) (fun _ _ _ h=>h) (Or.inl ⟨by rfl,?_⟩) ?_ ?_;rotate_left
           ·intro w';go_simp;with_reducible rfl
           rotate_left
           ·simp only[Act.put,List.setIfInBounds_toArray,List.set_cons_zero,List.set_cons_succ,i64_w,i32_w];rfl
           refine pure_ (i:=14) (N:=some 37) (v:=?_) (a':=?_) #[true,true,true,true,true,true,true,true,true,false,true,false,true,false,true,false,false,false,false] rfl rfl (any_of HT_.out (by kernel_rfl)) (fun _ _ _ h=>h) (Or.inl ⟨by rfl,?_⟩) ?_ ?_;rotate_left
           ·intro w';go_simp;with_reducible rfl
           rotate_left
           ·simp only[Act.put,List.setIfInBounds_toArray,List.set_cons_zero,List.set_cons_succ,i64_w,i32_w];rfl
           refine take_ (i:=9) (N:=some 32) (v:=?_) (a':=?_) #[true,true,true,true,true,true,true,true,true,true,true,false,true,false,true,false,false,false,false] rfl rfl (take_ofW HT_.out HW_.out (by kernel_rfl)) (fun _ _ _ h=>h) (Or.inl ⟨by rfl,?_⟩) hHeld ?_ ?_;rotate_left
           ·rintro w' ⟨s0,s1,s2,s3⟩;go_simp;with_reducible rfl
           rotate_left
           ·simp only[Act.put,List.setIfInBounds_toArray,List.set_cons_zero,List.set_cons_succ,i64_w,i32_w];rfl
           refine pure_ (i:=11) (N:=some 34) (v:=?_) (a':=?_) #[true,true,true,true,true,true,true,true,true,true,true,true,true,false,true,false,false,false,false] rfl rfl (any_of HT_.out (by kernel_rfl)) (fun _ _ _ h=>h) (Or.inl ⟨by rfl,?_⟩) ?_ ?_;rotate_left
           ·intro w';go_simp;with_reducible rfl
           rotate_left
           ·simp only[Act.put,List.setIfInBounds_toArray,List.set_cons_zero,List.set_cons_succ,i64_w,i32_w];rfl
           refine take_ (i:=13) (N:=some 36) (v:=?_) (a':=?_) #[true,true,true,true,true,true,true,true,true,true,true,true,true,true,true,false,false,false,false] rfl rfl (take_ofW HT_.out HW_.out (by kernel_rfl)) (fun _ _ _ h=>h) (Or.inl ⟨by rfl,?_⟩) hHeld ?_ ?_;rotate_left
           ·rintro w' ⟨s0,s1,s2,s3⟩;go_simp;with_reducible rfl
           rotate_left
           ·simp only[Act.put,List.setIfInBounds_toArray,List.set_cons_zero,List.set_cons_succ,i64_w,i32_w];rfl
           refine pure_ (i:=15) (N:=some 38) (v:=?_) (a':=?_) #[true,true,true,true,true,true,true,true,true,true,true,true,true,true,true,true,false,false,false] rfl rfl (any_of HT_.out (by kernel_rfl)) (fun _ _ _ h=>h) (Or.inl ⟨by rfl,?_⟩) ?_ ?_;rotate_left
           ·intro w';go_simp;with_reducible rfl
           rotate_left
           ·simp only[Act.put,List.setIfInBounds_toArray,List.set_cons_zero,List.set_cons_succ,i64_w,i32_w];rfl
           refine take_ (i:=16) (N:=some 39) (v:=?_) (a':=?_) #[true,true,true,true,true,true,true,true,true,true,true,true,true,true,true,true,true,false,false] rfl rfl (take_ofW HT_.out HW_.out (by kernel_rfl)) (fun _ _ _ h=>h) (Or.inl ⟨by rfl,?_⟩) hHeld ?_ ?_;rotate_left
           ·rintro w' ⟨s0,s1,s2,s3⟩;go_simp;with_reducible rfl
           rotate_left
           ·simp only[Act.put,List.setIfInBounds_toArray,List.set_cons_zero,List.set_cons_succ,i64_w,i32_w];rfl
           refine one_ (i:=17) (N:=some 40) #[true,true,true,true,true,true,true,true,true,true,true,true,true,true,true,true,true,true,false] rfl rfl (one_of HT_.out (by kernel_rfl)) (by decide) (fun K hK=>?_);refine goes_ Tryz.func62 (by kernel_rfl) rfl #[.slice (some ad299) (l0_0.take (x3_2:Int).toNat).length c0_0,.string (rdOf ByteArray.empty l0_0 x3_2)] (by rfl) rfl rfl (by(try simp only[List.map_toArray,List.map_cons,List.map_nil]);(rw[show(l0_0.take (x3_2:Int).toNat).length=x3_2.toNat from(by rw[List.length_take];have h_:(x3_2:Int)≤(l0_0.length:Int):=zD;omega)]<;>rfl)) ?_;(with_reducible refine(legationref03_In.calls k2 _ _ (l0_0.take (x3_2:Int).toNat) (rdOf ByteArray.empty l0_0 x3_2) false _ ?side1 ?side2 A14.out).mono ?_);(case side1=>repeat(exact(Kd.C_below HR301.out (by repeat((with_reducible first|exact HB.out|apply pw_below_drewN))))));(case side2=>exact HC301.out);rintro e w' ⟨rfl,⟨nd,rfl⟩⟩;refine⟨_,rfl,?_⟩;refine hK.out _ _ ⟨(blk_cell BK298.out 0).trans rfl,(blk_cell BK298.out 1).trans rfl,((HB.out.cell (World.block_lt_of_cell? w _ hw299_0)).trans hw299_0),((HB.out.cell (World.block_lt_of_cell? w _ hw302_0)).trans hw302_0)⟩ (fun hHeld=>?_);clear hK K;refine norm_ (a':=?_) ?_ ?_;rotate_left
           ·(show Act.put _ (some 40) _=_);simp only[Act.put,List.setIfInBounds_toArray,List.set_cons_zero,List.set_cons_succ,i64_w,i32_w];rfl
           refine pure_ (i:=18) (N:=some 41) (v:=?_) (a':=?_) #[true,true,true,true,true,true,true,true,true,true,true,true,true,true,true,true,true,true,true] rfl rfl (any_of HT_.out (by kernel_rfl)) (fun _ _ _ h=>h) (Or.inl ⟨by rfl,?_⟩) ?_ ?_;rotate_left
           ·intro w';go_simp;with_reducible rfl
           rotate_left
           ·simp only[Act.put,List.setIfInBounds_toArray,List.set_cons_zero,List.set_cons_succ,i64_w,i32_w];rfl
           refine done_ (done_of HT_.out (by kernel_rfl)) ?_;(try go_wp2);go_roundg k2;(case measure=>have:=HJ1.out;have:=HK2.out;omega);case rel=>exact⟨(wrap64 (x3_2+1)),(by rfl),H',⟨by have:=HJ1.out;have:=HK2.out;omega⟩,⟨by(with_reducible repeat(refine blk_drewN ?_ _));exact BK298.out⟩,⟨by repeat((with_reducible first|exact HB.out|apply pw_below_drewN))⟩⟩
         ·rw[if_neg c13]at H;exact absurd H (by simp)
        ·replace c11:=Bool.eq_false_iff.mpr c11;subst c11;rw[if_neg (show ¬(false=true)by decide)]at H;obtain rfl:=Option.some.inj H;have hcz22_0:=zc20 BK298.out;(try go_wp2);replace BK298:=zA (blk_drew BK298.out);replace HB:=zA (below_drew1 HB.out);have p299:0≤(x3_2:Int):=zD;have q299:x3_2<(l0_0.length:Int):=zD;obtain⟨ad299,e299,hx299_0⟩:=Kd.at_string HR0_0.out x3_2 p299 q299;have hw299_0:=hx299_0;cases e299
         replace hx299_0:=(HB.out.cell (World.block_lt_of_cell? w _ hx299_0)).trans hx299_0;replace p299:=eq_true p299;replace q299:=eq_true q299;refine start_ (n:=19) (S:=fun w'=>w'.cell? ⟨gb298,0,none⟩=some (.slice (some ad299) l0_0.length c0_0)∧w'.cell? ⟨gb298,1,none⟩=some (.slice A0_1 l0_1.length c0_1)∧w'.cell? (ad299.add (x3_2).toNat)=some (.string (rdOf ByteArray.empty l0_0 x3_2))) (ds:= []) #[false,false,false,false,false,false,false,false,false,false,false,false,false,false,false,false,false,false,false] (by kernel_rfl) rfl rfl ⟨(blk_cell BK298.out 0).trans rfl,(blk_cell BK298.out 1).trans rfl,((HB.out.cell (World.block_lt_of_cell? w _ hw299_0)).trans hw299_0)⟩ (fun hHeld=>?_);refine with_tabW legationref11_Right.tab6 legationref11_Right.bits6 (fun HT_ HW_=>?_);generalize wr.drew=w23 at BK298 HB hx299_0 hHeld ⊢;refine pure_ (i:=0) (N:=some 23) (v:=?_) (a':=?_) #[true,false,false,false,false,false,false,false,false,false,false,false,false,false,false,false,false,false,false] rfl rfl (any_of HT_.out (by kernel_rfl)) (fun _ _ _ h=>h) (Or.inl ⟨by rfl,?_⟩) ?_ ?_;rotate_left
         ·intro w';go_simp;with_reducible rfl
         rotate_left
         ·simp only[Act.put,List.setIfInBounds_toArray,List.set_cons_zero,List.set_cons_succ,i64_w,i32_w];rfl
         refine pure_ (i:=2) (N:=some 25) (v:=?_) (a':=?_) #[true,false,true,false,false,false,false,false,false,false,false,false,false,false,false,false,false,false,false] rfl rfl (any_of HT_.out (by kernel_rfl)) (fun _ _ _ h=>h) (Or.inl ⟨by rfl,?_⟩) ?_ ?_;rotate_left
         ·intro w';go_simp;with_reducible rfl
         rotate_left
         ·simp only[Act.put,List.setIfInBounds_toArray,List.set_cons_zero,List.set_cons_succ,i64_w,i32_w];rfl
         refine take_ (i:=1) (N:=some 24) (v:=?_) (a':=?_) #[true,true,true,false,false,false,false,false,false,false,false,false,false,false,false,false,false,false,false] rfl rfl (take_ofW HT_.out HW_.out (by kernel_rfl)) (fun _ _ _ h=>h) (Or.inl ⟨by rfl,?_⟩) hHeld ?_ ?_;rotate_left
         ·rintro w' ⟨s0,s1,s2⟩;go_simp;with_reducible rfl
         rotate_left
         ·simp only[Act.put,List.setIfInBounds_toArray,List.set_cons_zero,List.set_cons_succ,i64_w,i32_w];rfl
         refine pure_ (i:=3) (N:=some 26) (v:=?_) (a':=?_) #[true,true,true,true,false,false,false,false,false,false,false,false,false,false,false,false,false,false,false] rfl rfl (any_of HT_.out (by kernel_rfl)) (fun _ _ _ h=>h) (Or.inl ⟨by rfl,?_⟩) ?_ ?_;rotate_left
         ·intro w';go_simp;with_reducible rfl
         rotate_left
         ·simp only[Act.put,List.setIfInBounds_toArray,List.set_cons_zero,List.set_cons_succ,i64_w,i32_w];rfl
         refine take_ (i:=4) (N:=some 27) (v:=?_) (a':=?_) #[true,true,true,true,true,false,false,false,false,false,false,false,false,false,false,false,false,false,false] rfl rfl (take_ofW HT_.out HW_.out (by kernel_rfl)) (fun _ _ _ h=>h) (Or.inl ⟨by rfl,?_⟩) hHeld ?_ ?_;rotate_left
         ·rintro w' ⟨s0,s1,s2⟩;go_simp;with_reducible rfl
         rotate_left
         ·simp only[Act.put,List.setIfInBounds_toArray,List.set_cons_zero,List.set_cons_succ,i64_w,i32_w];rfl
         refine one_ (i:=5) (N:=some 28) #[true,true,true,true,true,true,false,false,false,false,false,false,false,false,false,false,false,false,false] rfl rfl (one_of HT_.out (by kernel_rfl)) (by decide) (fun K hK=>?_);refine goes_ Tryz.func61 (by kernel_rfl) rfl #[.string (rdOf ByteArray.empty l0_0 x3_2)] (by rfl) rfl rfl (by(try simp only[List.map_toArray,List.map_cons,List.map_nil]);rfl) ?_;(with_reducible refine(legationref01_IsName.calls k2 (rdOf ByteArray.empty l0_0 x3_2) false _ A10.out).mono ?_);rintro e w' ⟨rfl,⟨nd,rfl⟩⟩;refine⟨_,rfl,?_⟩;refine hK.out _ _ ⟨(blk_cell BK298.out 0).trans rfl,(blk_cell BK298.out 1).trans rfl,((HB.out.cell (World.block_lt_of_cell? w _ hw299_0)).trans hw299_0)⟩ (fun hHeld=>?_);clear hK K;refine norm_ (a':=?_) ?_ ?_;rotate_left
         ·(show Act.put _ (some 28) _=_);simp only[Act.put,List.setIfInBounds_toArray,List.set_cons_zero,List.set_cons_succ,i64_w,i32_w];rfl
         refine pure_ (i:=6) (N:=some 29) (v:=?_) (a':=?_) #[true,true,true,true,true,true,true,false,false,false,false,false,false,false,false,false,false,false,false] rfl rfl (any_of HT_.out (by kernel_rfl)) (fun _ _ _ h=>h) (Or.inl ⟨by rfl,?_⟩) ?_ ?_;rotate_left
         ·intro w';go_simp;with_reducible rfl
         rotate_left
         ·simp only[Act.put,List.setIfInBounds_toArray,List.set_cons_zero,List.set_cons_succ,i64_w,i32_w];rfl
         refine pure_ (i:=7) (N:=some 30) (v:=?_) (a':=?_) #[true,true,true,true,true,true,true,true,false,false,false,false,false,false,false,false,false,false,false] rfl rfl (any_of HT_.out (by kernel_rfl)) (fun _ _ _ h=>h) (Or.inl ⟨by rfl,?_⟩) ?_ ?_;rotate_left
         ·intro w';go_simp;with_reducible rfl
         rotate_left
         ·simp only[Act.put,List.setIfInBounds_toArray,List.set_cons_zero,List.set_cons_succ,i64_w,i32_w];rfl
         refine pure_ (i:=8) (N:=some 31) (v:=undef) (a':=?_) #[true,true,true,true,true,true,true,true,true,false,false,false,false,false,false,false,false,false,false] rfl rfl (any_of HT_.out (by kernel_rfl)) (fun _ _ _ h=>h) (Or.inr ⟨by rfl,rfl⟩) ?_ ?_;rotate_left
         ·simp only[Act.put,List.setIfInBounds_toArray,List.set_cons_zero,List.set_cons_succ,i64_w,i32_w];rfl
         refine pure_ (i:=9) (N:=some 32) (v:=undef) (a':=?_) #[true,true,true,true,true,true,true,true,true,true,false,false,false,false,false,false,false,false,false] rfl rfl (any_of HT_.out (by kernel_rfl)) (fun _ _ _ h=>h) (Or.inr ⟨by rfl,rfl⟩) ?_ ?_;rotate_left
         ·simp only[Act.put,List.setIfInBounds_toArray,List.set_cons_zero,List.set_cons_succ,i64_w,i32_w];rfl
         refine pure_ (i:=10) (N:=some 33) (v:=undef) (a':=?_) #[true,true,true,true,true,true,true,true,true,true,true,false,false,false,false,false,false,false,false] rfl rfl (any_of HT_.out (by kernel_rfl)) (fun _ _ _ h=>h) (Or.inr ⟨by rfl,rfl⟩) ?_ ?_;rotate_left
         ·simp only[Act.put,List.setIfInBounds_toArray,List.set_cons_zero,List.set_cons_succ,i64_w,i32_w];rfl
         refine pure_ (i:=11) (N:=some 34) (v:=undef) (a':=?_) #[true,true,true,true,true,true,true,true,true,true,true,true,false,false,false,false,false,false,false] rfl rfl (any_of HT_.out (by kernel_rfl)) (fun _ _ _ h=>h) (Or.inr ⟨by rfl,rfl⟩) ?_ ?_;rotate_left
         ·simp only[Act.put,List.setIfInBounds_toArray,List.set_cons_zero,List.set_cons_succ,i64_w,i32_w];rfl
         refine pure_ (i:=12) (N:=some 35) (v:=undef) (a':=?_) #[true,true,true,true,true,true,true,true,true,true,true,true,true,false,false,false,false,false,false] rfl rfl (any_of HT_.out (by kernel_rfl)) (fun _ _ _ h=>h) (Or.inr ⟨by rfl,rfl⟩) ?_ ?_;rotate_left
         ·simp only[Act.put,List.setIfInBounds_toArray,List.set_cons_zero,List.set_cons_succ,i64_w,i32_w];rfl
         refine pure_ (i:=13) (N:=some 36) (v:=undef) (a':=?_) #[true,true,true,true,true,true,true,true,true,true,true,true,true,true,false,false,false,false,false] rfl rfl (any_of HT_.out (by kernel_rfl)) (fun _ _ _ h=>h) (Or.inr ⟨by rfl,rfl⟩) ?_ ?_;rotate_left
         ·simp only[Act.put,List.setIfInBounds_toArray,List.set_cons_zero,List.set_cons_succ,i64_w,i32_w];rfl
         refine pure_ (i:=14) (N:=some 37) (v:=undef) (a':=?_) #[true,true,true,true,true,true,true,true,true,true,true,true,true,true,true,false,false,false,false] rfl rfl (any_of HT_.out (by kernel_rfl)) (fun _ _ _ h=>h) (Or.inr ⟨by rfl,rfl⟩) ?_ ?_;rotate_left
         ·simp only[Act.put,List.setIfInBounds_toArray,List.set_cons_zero,List.set_cons_succ,i64_w,i32_w];rfl
         refine pure_ (i:=15) (N:=some 38) (v:=undef) (a':=?_) #[true,true,true,true,true,true,true,true,true,true,true,true,true,true,true,true,false,false,false] rfl rfl (any_of HT_.out (by kernel_rfl)) (fun _ _ _ h=>h) (Or.inr ⟨by rfl,rfl⟩) ?_ ?_;rotate_left
         ·simp only[Act.put,List.setIfInBounds_toArray,List.set_cons_zero,List.set_cons_succ,i64_w,i32_w];rfl
         refine pure_ (i:=16) (N:=some 39) (v:=undef) (a':=?_) #[true,true,true,true,true,true,true,true,true,true,true,true,true,true,true,true,true,false,false] rfl rfl (any_of HT_.out (by kernel_rfl)) (fun _ _ _ h=>h) (Or.inr ⟨by rfl,rfl⟩) ?_ ?_;rotate_left
         ·simp only[Act.put,List.setIfInBounds_toArray,List.set_cons_zero,List.set_cons_succ,i64_w,i32_w];rfl
         refine pure_ (i:=17) (N:=some 40) (v:=undef) (a':=?_) #[true,true,true,true,true,true,true,true,true,true,true,true,true,true,true,true,true,true,false] rfl rfl (any_of HT_.out (by kernel_rfl)) (fun _ _ _ h=>h) (Or.inr ⟨by rfl,rfl⟩) ?_ ?_;rotate_left
         ·simp only[Act.put,List.setIfInBounds_toArray,List.set_cons_zero,List.set_cons_succ,i64_w,i32_w];rfl
         refine pure_ (i:=18) (N:=some 41) (v:=?_) (a':=?_) #[true,true,true,true,true,true,true,true,true,true,true,true,true,true,true,true,true,true,true] rfl rfl (any_of HT_.out (by kernel_rfl)) (fun _ _ _ h=>h) (Or.inl ⟨by rfl,?_⟩) ?_ ?_;rotate_left
         ·intro w';go_simp;with_reducible rfl
         rotate_left
         ·simp only[Act.put,List.setIfInBounds_toArray,List.set_cons_zero,List.set_cons_succ,i64_w,i32_w];rfl
         refine done_ (done_of HT_.out (by kernel_rfl)) ?_;(try go_wp2);go_ret;exact⟨by rfl,by repeat((with_reducible first|exact HB.out|apply pw_below_drewN))⟩
       ·rw[if_neg c9]at H;exact absurd H (by simp)
      ·rw[if_neg c8]at H;have c8b0:decide (x3_2<(l0_0.length:Int))=false:=decide_eq_false c8;clear c8;have H':=zA H;clear H;have hcz24_0:=zc20 BK298.out;go_wp2;go_loopg [4] k2 (fun kq v4 w'=> ∃ (x4_3:Int),v4= .int .i64 x4_3∧Aside0 (legationref11_Right.l1 kq x4_3 l0_0 l0_1=some r)∧Aside0 (kq≤k2)∧Aside0 (w'.heap[gb298]? =some (.cells #[(.slice A0_0 l0_0.length c0_0),(.slice A0_1 l0_1.length c0_1)] 25 (0,0)))∧Aside0 (Below w.heap.size w w'));(case atStart=>exact⟨(0),(by rfl),H',⟨Nat.le_refl _⟩,⟨by exact BK298.out⟩,⟨HB.out⟩⟩);case round=>
        clear H';(try clear c8b0);(try clear hcz24_0);obtain⟨x4_3,rfl,HA,HK3,BK298,HB⟩:=hrel;cases gk with
        |zero=>exact absurd HA.out (by simp[legationref11_Right.l1])
        |succ k3=>
         have H:=HA.out;clear HA;simp only[legationref11_Right.l1]at H;by_cases c25:x4_3<(l0_1.length:Int)
         ·rw[if_pos c25]at H;have c25b0:decide (x4_3<(l0_1.length:Int))=true:=decide_eq_true c25;clear c25;by_cases c26:0≤x4_3
          ·rw[if_pos c26]at H;have c26b0:decide (0≤x4_3)=true:=decide_eq_true c26;clear c26;by_cases c27:((rd_L3 l0_1 x4_3).length:Int)=(l0_0.length:Int)
           ·rw[if_pos c27]at H;have c27b1:(((rd_L3 l0_1 x4_3).length:Int) !=(l0_0.length:Int))=false:=bne_eq_false_iff_eq.mpr c27;clear c27;have H':=zA H;clear H;have hcz28_1:=zc21 BK298.out;(try go_wp2);replace BK298:=zA (blk_drew BK298.out);replace HB:=zA (below_drew1 HB.out);have p304:0≤(x4_3:Int):=zD;have q304:x4_3<(l0_1.length:Int):=zD;obtain⟨ad304,A304_0,c304_0,e304,hx304_0,hl304_0,hi304_0⟩:=at_L3 HR0_1.out x4_3 p304 q304;have hw304_0:=hx304_0;cases e304
            replace hx304_0:=(HB.out.cell (World.block_lt_of_cell? w _ hx304_0)).trans hx304_0;have HR304_0:=zA hi304_0;have HC304_0:=zA hl304_0;clear hi304_0 hl304_0;replace p304:=eq_true p304;replace q304:=eq_true q304;refine start_ (n:=10) (S:=fun w'=>w'.cell? ⟨gb298,0,none⟩=some (.slice A0_0 l0_0.length c0_0)∧w'.cell? ⟨gb298,1,none⟩=some (.slice (some ad304) l0_1.length c0_1)∧w'.cell? (ad304.add (x4_3).toNat)=some (.slice A304_0 (rd_L3 l0_1 x4_3).length c304_0)) (ds:= []) #[false,false,false,false,false,false,false,false,false,false] (by kernel_rfl) rfl rfl ⟨(blk_cell BK298.out 0).trans rfl,(blk_cell BK298.out 1).trans rfl,((HB.out.cell (World.block_lt_of_cell? w _ hw304_0)).trans hw304_0)⟩ (fun hHeld=>?_);refine with_tabW legationref11_Right.tab11 legationref11_Right.bits11 (fun HT_ HW_=>?_);generalize wr.drew=w29 at BK298 HB HR304_0 hx304_0 hHeld ⊢;refine pure_ (i:=0) (N:=some 49) (v:=?_) (a':=?_) #[true,false,false,false,false,false,false,false,false,false] rfl rfl (any_of HT_.out (by kernel_rfl)) (fun _ _ _ h=>h) (Or.inl ⟨by rfl,?_⟩) ?_ ?_;rotate_left
            ·intro w';go_simp;with_reducible rfl
            rotate_left
            ·simp only[Act.put,List.setIfInBounds_toArray,List.set_cons_zero,List.set_cons_succ,i64_w,i32_w];rfl
            refine pure_ (i:=2) (N:=some 51) (v:=?_) (a':=?_) #[true,false,true,false,false,false,false,false,false,false] rfl rfl (any_of HT_.out (by kernel_rfl)) (fun _ _ _ h=>h) (Or.inl ⟨by rfl,?_⟩) ?_ ?_;rotate_left
            ·intro w';go_simp;with_reducible rfl
            rotate_left
            ·simp only[Act.put,List.setIfInBounds_toArray,List.set_cons_zero,List.set_cons_succ,i64_w,i32_w];rfl
            refine pure_ (i:=6) (N:=some 55) (v:=?_) (a':=?_) #[true,false,true,false,false,false,true,false,false,false] rfl rfl (any_of HT_.out (by kernel_rfl)) (fun _ _ _ h=>h) (Or.inl ⟨by rfl,?_⟩) ?_ ?_;rotate_left
            ·intro w';go_simp;with_reducible rfl
            rotate_left
            ·simp only[Act.put,List.setIfInBounds_toArray,List.set_cons_zero,List.set_cons_succ,i64_w,i32_w];rfl
            refine take_ (i:=1) (N:=some 50) (v:=?_) (a':=?_) #[true,true,true,false,false,false,true,false,false,false] rfl rfl (take_ofW HT_.out HW_.out (by kernel_rfl)) (fun _ _ _ h=>h) (Or.inl ⟨by rfl,?_⟩) hHeld ?_ ?_;rotate_left
            ·rintro w' ⟨s0,s1,s2⟩;go_simp;with_reducible rfl
            rotate_left
            ·simp only[Act.put,List.setIfInBounds_toArray,List.set_cons_zero,List.set_cons_succ,i64_w,i32_w];rfl
            refine pure_ (i:=3) (N:=some 52) (v:=?_) (a':=?_) #[true,true,true,true,false,false,true,false,false,false] rfl rfl (any_of HT_.out (by kernel_rfl)) (fun _ _ _ h=>h) (Or.inl ⟨by rfl,?_⟩) ?_ ?_;rotate_left
            ·intro w';go_simp;with_reducible rfl
            rotate_left
            ·simp only[Act.put,List.setIfInBounds_toArray,List.set_cons_zero,List.set_cons_succ,i64_w,i32_w];rfl
            refine take_ (i:=4) (N:=some 53) (v:=?_) (a':=?_) #[true,true,true,true,true,false,true,false,false,false] rfl rfl (take_ofW HT_.out HW_.out (by kernel_rfl)) (fun _ _ _ h=>h) (Or.inl ⟨by rfl,?_⟩) hHeld ?_ ?_;rotate_left
            ·rintro w' ⟨s0,s1,s2⟩;go_simp;with_reducible rfl
            rotate_left
            ·simp only[Act.put,List.setIfInBounds_toArray,List.set_cons_zero,List.set_cons_succ,i64_w,i32_w];rfl
            refine pure_ (i:=5) (N:=some 54) (v:=?_) (a':=?_) #[true,true,true,true,true,true,true,false,false,false] rfl rfl (any_of HT_.out (by kernel_rfl)) (fun _ _ _ h=>h) (Or.inl ⟨by rfl,?_⟩) ?_ ?_;rotate_left
            ·intro w';go_simp;with_reducible rfl
            rotate_left
            ·simp only[Act.put,List.setIfInBounds_toArray,List.set_cons_zero,List.set_cons_succ,i64_w,i32_w];rfl
            refine take_ (i:=7) (N:=some 56) (v:=?_) (a':=?_) #[true,true,true,true,true,true,true,true,false,false] rfl rfl (take_ofW HT_.out HW_.out (by kernel_rfl)) (fun _ _ _ h=>h) (Or.inl ⟨by rfl,?_⟩) hHeld ?_ ?_;rotate_left
            ·rintro w' ⟨s0,s1,s2⟩;go_simp;with_reducible rfl
            rotate_left
            ·simp only[Act.put,List.setIfInBounds_toArray,List.set_cons_zero,List.set_cons_succ,i64_w,i32_w];rfl
            refine pure_ (i:=8) (N:=some 57) (v:=?_) (a':=?_) #[true,true,true,true,true,true,true,true,true,false] rfl rfl (any_of HT_.out (by kernel_rfl)) (fun _ _ _ h=>h) (Or.inl ⟨by rfl,?_⟩) ?_ ?_;rotate_left
            ·intro w';go_simp;with_reducible rfl
            rotate_left
            ·simp only[Act.put,List.setIfInBounds_toArray,List.set_cons_zero,List.set_cons_succ,i64_w,i32_w];rfl
            refine pure_ (i:=9) (N:=some 58) (v:=?_) (a':=?_) #[true,true,true,true,true,true,true,true,true,true] rfl rfl (any_of HT_.out (by kernel_rfl)) (fun _ _ _ h=>h) (Or.inl ⟨by rfl,?_⟩) ?_ ?_;rotate_left
            ·intro w';go_simp;with_reducible rfl
            rotate_left
            ·simp only[Act.put,List.setIfInBounds_toArray,List.set_cons_zero,List.set_cons_succ,i64_w,i32_w];rfl
            refine done_ (done_of HT_.out (by kernel_rfl)) ?_;(try go_wp2);go_loopg [5] k3 (fun kq v5 w'=> ∃ (x5_4:Int),v5= .int .i64 x5_4∧Aside0 (legationref11_Right.l2 kq x4_3 x5_4 l0_0 l0_1=some r)∧Aside0 (kq≤k3)∧Aside0 (w'.heap[gb298]? =some (.cells #[(.slice A0_0 l0_0.length c0_0),(.slice (some ad304) l0_1.length c0_1)] 25 (0,0)))∧Aside0 (Below w.heap.size w w'));(case atStart=>exact⟨(0),(by rfl),H',⟨Nat.le_refl _⟩,⟨by exact BK298.out⟩,⟨HB.out⟩⟩);case round=>
             clear H';(try clear c25b0);(try clear c26b0);(try clear c27b1);(try clear hcz28_1);(try clear hx304_0);(try clear p304);(try clear q304);obtain⟨x5_4,rfl,HA,HK4,BK298,HB⟩:=hrel;cases gk with
             |zero=>exact absurd HA.out (by simp[legationref11_Right.l2])
             |succ k4=>
              have H:=HA.out;clear HA;simp only[legationref11_Right.l2]at H;by_cases c30:0≤x4_3
              ·rw[if_pos c30]at H;have c30b0:decide (0≤x4_3)=true:=decide_eq_true c30;clear c30;by_cases c31:x4_3<(l0_1.length:Int)
               ·rw[if_pos c31]at H;have c31b0:decide (x4_3<(l0_1.length:Int))=true:=decide_eq_true c31;clear c31;by_cases c32:x5_4<((rd_L3 l0_1 x4_3).length:Int)
                ·rw[if_pos c32]at H;have c32b0:decide (x5_4<((rd_L3 l0_1 x4_3).length:Int))=true:=decide_eq_true c32;clear c32;by_cases c33:0≤x5_4
                 ·rw[if_pos c33]at H;have c33b0:decide (0≤x5_4)=true:=decide_eq_true c33;clear c33;replace H:=zO H;obtain⟨t308,A340,H⟩:=H;have A34:=zA A340;clear A340;by_cases c35:t308=true
                  ·subst c35;rw[if_pos rfl]at H;by_cases c36:((rd_T43 (rd_L3 l0_1 x4_3) x5_4).f0)=4
                   ·rw[if_pos c36]at H;have c36b0:(((rd_T43 (rd_L3 l0_1 x4_3) x5_4).f0)==4)=true:=beq_iff_eq.mpr c36;clear c36;obtain rfl:=Option.some.inj H;have hcz37_1:wr.cell? ⟨gb298,1,none⟩=some (.slice (some ad304) l0_1.length c0_1):=(blk_cell BK298.out 1).trans rfl;have p305:0≤(x4_3:Int):=zD;have q305:x4_3<(l0_1.length:Int):=zD;obtain⟨ad305,A305_0,c305_0,e305,hx305_0,hl305_0,hi305_0⟩:=at_L3 HR0_1.out x4_3 p305 q305;obtain rfl:ad304=ad305:=(by injection e305);replace hx305_0:=(HB.out.cell (World.block_lt_of_cell? w _ hx305_0)).trans hx305_0;have HR305_0:=zA hi305_0;have HC305_0:=zA hl305_0;clear hi305_0 hl305_0;replace p305:=eq_true p305;replace q305:=eq_true q305;have p306:0≤(x4_3:Int):=zD;have q306:x4_3<(l0_1.length:Int):=zD;obtain⟨ad306,A306_0,c306_0,e306,hx306_0,hl306_0,hi306_0⟩:=at_L3 HR0_1.out x4_3 p306 q306;obtain rfl:ad304=ad306:=(by injection e306);replace hx306_0:=(HB.out.cell (World.block_lt_of_cell? w _ hx306_0)).trans hx306_0;have HR306_0:=zA hi306_0;have HC306_0:=zA hl306_0;clear hi306_0 hl306_0;replace p306:=eq_true p306;replace q306:=eq_true q306;have ea_:=Option.some.inj (hx305_0.symm.trans hx306_0);injection ea_ with ea_ en_ ec_
                    subst ea_;subst ec_;clear en_;have p307:0≤(x5_4:Int):=zD;have q307:x5_4<((rd_L3 l0_1 x4_3).length:Int):=zD;obtain⟨ad307,e307,hx307_0,hx307_1,hx307_2,hx307_3⟩:=at_T43 HR306_0.out x5_4 p307 q307;cases e307
                    replace hx307_0:=(HB.out.cell (World.block_lt_of_cell? w _ hx307_0)).trans hx307_0;replace hx307_1:=(HB.out.cell (World.block_lt_of_cell? w _ hx307_1)).trans hx307_1;replace hx307_2:=(HB.out.cell (World.block_lt_of_cell? w _ hx307_2)).trans hx307_2;replace hx307_3:=(HB.out.cell (World.block_lt_of_cell? w _ hx307_3)).trans hx307_3;replace p307:=eq_true p307;replace q307:=eq_true q307;go_wp2_with (((with_reducible refine gate_callee (f:=63) rfl ?_);refine zX (some 77) Tryz.func63 #[.agg #[.int .i64 ((rd_T43 (rd_L3 l0_1 x4_3) x5_4).f0),.string ((rd_T43 (rd_L3 l0_1 x4_3) x5_4).f1),.string ((rd_T43 (rd_L3 l0_1 x4_3) x5_4).f2),.string ((rd_T43 (rd_L3 l0_1 x4_3) x5_4).f3)]] ?_;(with_reducible refine(legationref01_Right.calls k4 ((rd_T43 (rd_L3 l0_1 x4_3) x5_4).f0) ((rd_T43 (rd_L3 l0_1 x4_3) x5_4).f1) ((rd_T43 (rd_L3 l0_1 x4_3) x5_4).f2) ((rd_T43 (rd_L3 l0_1 x4_3) x5_4).f3) true _ A34.out).mono ?_);rintro e w38 ⟨rfl,hb⟩;refine⟨_,rfl,?_⟩;replace BK298:=zB BK298.out hb;replace HB:=zS HB.out hb;(try clear hb);have hcz39_1:w38.cell? ⟨gb298,1,none⟩=some (.slice (some ad304) l0_1.length c0_1):=(blk_cell BK298.out 1).trans rfl;have p309:0≤(x4_3:Int):=zD;have q309:x4_3<(l0_1.length:Int):=zD;obtain⟨ad309,A309_0,c309_0,e309,hx309_0,hl309_0,hi309_0⟩:=at_L3 HR0_1.out x4_3 p309 q309;obtain rfl:ad304=ad309:=(by injection e309);replace hx309_0:=(HB.out.cell (World.block_lt_of_cell? w _ hx309_0)).trans hx309_0;have HR309_0:=zA hi309_0;have HC309_0:=zA hl309_0;clear hi309_0 hl309_0;replace p309:=eq_true p309;replace q309:=eq_true q309;have p310:0≤(x5_4:Int):=zD;have q310:x5_4<((rd_L3 l0_1 x4_3).length:Int):=zD;obtain⟨ad310,e310,hx310_0,hx310_1,hx310_2,hx310_3⟩:=at_T43 HR309_0.out x5_4 p310 q310;cases e310;replace hx310_0:=(HB.out.cell (World.block_lt_of_cell? w _ hx310_0)).trans hx310_0;replace hx310_1:=(HB.out.cell (World.block_lt_of_cell? w _ hx310_1)).trans hx310_1;replace hx310_2:=(HB.out.cell (World.block_lt_of_cell? w _ hx310_2)).trans hx310_2;replace hx310_3:=(HB.out.cell (World.block_lt_of_cell? w _ hx310_3)).trans hx310_3;replace p310:=eq_true p310;replace q310:=eq_true q310));go_ret;exact⟨by rfl,HB.out⟩
                   ·rw[if_neg c36]at H;have c36b0:(((rd_T43 (rd_L3 l0_1 x4_3) x5_4).f0)==4)=false:=beq_eq_false_iff_ne.mpr c36;have H':=zA H;clear H;have hcz40_1:wr.cell? ⟨gb298,1,none⟩=some (.slice (some ad304) l0_1.length c0_1):=(blk_cell BK298.out 1).trans rfl;have p305:0≤(x4_3:Int):=zD;have q305:x4_3<(l0_1.length:Int):=zD;obtain⟨ad305,A305_0,c305_0,e305,hx305_0,hl305_0,hi305_0⟩:=at_L3 HR0_1.out x4_3 p305 q305;obtain rfl:ad304=ad305:=(by injection e305);replace hx305_0:=(HB.out.cell (World.block_lt_of_cell? w _ hx305_0)).trans hx305_0;have HR305_0:=zA hi305_0;have HC305_0:=zA hl305_0;clear hi305_0 hl305_0;replace p305:=eq_true p305;replace q305:=eq_true q305;have p306:0≤(x4_3:Int):=zD;have q306:x4_3<(l0_1.length:Int):=zD;obtain⟨ad306,A306_0,c306_0,e306,hx306_0,hl306_0,hi306_0⟩:=at_L3 HR0_1.out x4_3 p306 q306;obtain rfl:ad304=ad306:=(by injection e306);replace hx306_0:=(HB.out.cell (World.block_lt_of_cell? w _ hx306_0)).trans hx306_0;have HR306_0:=zA hi306_0;have HC306_0:=zA hl306_0;clear hi306_0 hl306_0;replace p306:=eq_true p306;replace q306:=eq_true q306;have ea_:=Option.some.inj (hx305_0.symm.trans hx306_0);injection ea_ with ea_ en_ ec_
                    subst ea_;subst ec_;clear en_;have p307:0≤(x5_4:Int):=zD;have q307:x5_4<((rd_L3 l0_1 x4_3).length:Int):=zD;obtain⟨ad307,e307,hx307_0,hx307_1,hx307_2,hx307_3⟩:=at_T43 HR306_0.out x5_4 p307 q307;cases e307
                    replace hx307_0:=(HB.out.cell (World.block_lt_of_cell? w _ hx307_0)).trans hx307_0;replace hx307_1:=(HB.out.cell (World.block_lt_of_cell? w _ hx307_1)).trans hx307_1;replace hx307_2:=(HB.out.cell (World.block_lt_of_cell? w _ hx307_2)).trans hx307_2;replace hx307_3:=(HB.out.cell (World.block_lt_of_cell? w _ hx307_3)).trans hx307_3;replace p307:=eq_true p307;replace q307:=eq_true q307;go_wp2_with (((with_reducible refine gate_callee (f:=63) rfl ?_);refine zX (some 77) Tryz.func63 #[.agg #[.int .i64 ((rd_T43 (rd_L3 l0_1 x4_3) x5_4).f0),.string ((rd_T43 (rd_L3 l0_1 x4_3) x5_4).f1),.string ((rd_T43 (rd_L3 l0_1 x4_3) x5_4).f2),.string ((rd_T43 (rd_L3 l0_1 x4_3) x5_4).f3)]] ?_;(with_reducible refine(legationref01_Right.calls k4 ((rd_T43 (rd_L3 l0_1 x4_3) x5_4).f0) ((rd_T43 (rd_L3 l0_1 x4_3) x5_4).f1) ((rd_T43 (rd_L3 l0_1 x4_3) x5_4).f2) ((rd_T43 (rd_L3 l0_1 x4_3) x5_4).f3) true _ A34.out).mono ?_);rintro e w41 ⟨rfl,hb⟩;refine⟨_,rfl,?_⟩;replace BK298:=zB BK298.out hb;replace HB:=zS HB.out hb;(try clear hb);have hcz42_1:w41.cell? ⟨gb298,1,none⟩=some (.slice (some ad304) l0_1.length c0_1):=(blk_cell BK298.out 1).trans rfl;have p309:0≤(x4_3:Int):=zD;have q309:x4_3<(l0_1.length:Int):=zD;obtain⟨ad309,A309_0,c309_0,e309,hx309_0,hl309_0,hi309_0⟩:=at_L3 HR0_1.out x4_3 p309 q309;obtain rfl:ad304=ad309:=(by injection e309);replace hx309_0:=(HB.out.cell (World.block_lt_of_cell? w _ hx309_0)).trans hx309_0;have HR309_0:=zA hi309_0;have HC309_0:=zA hl309_0;clear hi309_0 hl309_0;replace p309:=eq_true p309;replace q309:=eq_true q309;have p310:0≤(x5_4:Int):=zD;have q310:x5_4<((rd_L3 l0_1 x4_3).length:Int):=zD;obtain⟨ad310,e310,hx310_0,hx310_1,hx310_2,hx310_3⟩:=at_T43 HR309_0.out x5_4 p310 q310;cases e310;replace hx310_0:=(HB.out.cell (World.block_lt_of_cell? w _ hx310_0)).trans hx310_0;replace hx310_1:=(HB.out.cell (World.block_lt_of_cell? w _ hx310_1)).trans hx310_1;replace hx310_2:=(HB.out.cell (World.block_lt_of_cell? w _ hx310_2)).trans hx310_2;replace hx310_3:=(HB.out.cell (World.block_lt_of_cell? w _ hx310_3)).trans hx310_3;replace p310:=eq_true p310;replace q310:=eq_true q310));go_roundg k4;(case measure=>have:=HJ1.out;have:=HK2.out;have:=HK3.out;have:=HK4.out;omega);case rel=>exact⟨(wrap64 (x5_4+1)),(by rfl),H',⟨by have:=HJ1.out;have:=HK2.out;have:=HK3.out;have:=HK4.out;omega⟩,⟨by exact BK298.out⟩,⟨HB.out⟩⟩
                  ·replace c35:=Bool.eq_false_iff.mpr c35;subst c35;rw[if_neg (show ¬(false=true)by decide)]at H;obtain rfl:=Option.some.inj H;have hcz43_1:wr.cell? ⟨gb298,1,none⟩=some (.slice (some ad304) l0_1.length c0_1):=(blk_cell BK298.out 1).trans rfl;have p305:0≤(x4_3:Int):=zD;have q305:x4_3<(l0_1.length:Int):=zD;obtain⟨ad305,A305_0,c305_0,e305,hx305_0,hl305_0,hi305_0⟩:=at_L3 HR0_1.out x4_3 p305 q305;obtain rfl:ad304=ad305:=(by injection e305);replace hx305_0:=(HB.out.cell (World.block_lt_of_cell? w _ hx305_0)).trans hx305_0;have HR305_0:=zA hi305_0;have HC305_0:=zA hl305_0;clear hi305_0 hl305_0;replace p305:=eq_true p305;replace q305:=eq_true q305;have p306:0≤(x4_3:Int):=zD;have q306:x4_3<(l0_1.length:Int):=zD;obtain⟨ad306,A306_0,c306_0,e306,hx306_0,hl306_0,hi306_0⟩:=at_L3 HR0_1.out x4_3 p306 q306;obtain rfl:ad304=ad306:=(by injection e306);replace hx306_0:=(HB.out.cell (World.block_lt_of_cell? w _ hx306_0)).trans hx306_0;have HR306_0:=zA hi306_0;have HC306_0:=zA hl306_0;clear hi306_0 hl306_0;replace p306:=eq_true p306;replace q306:=eq_true q306;have ea_:=Option.some.inj (hx305_0.symm.trans hx306_0);injection ea_ with ea_ en_ ec_
                   subst ea_;subst ec_;clear en_;have p307:0≤(x5_4:Int):=zD;have q307:x5_4<((rd_L3 l0_1 x4_3).length:Int):=zD;obtain⟨ad307,e307,hx307_0,hx307_1,hx307_2,hx307_3⟩:=at_T43 HR306_0.out x5_4 p307 q307;cases e307
                   replace hx307_0:=(HB.out.cell (World.block_lt_of_cell? w _ hx307_0)).trans hx307_0;replace hx307_1:=(HB.out.cell (World.block_lt_of_cell? w _ hx307_1)).trans hx307_1;replace hx307_2:=(HB.out.cell (World.block_lt_of_cell? w _ hx307_2)).trans hx307_2;replace hx307_3:=(HB.out.cell (World.block_lt_of_cell? w _ hx307_3)).trans hx307_3;replace p307:=eq_true p307;replace q307:=eq_true q307;go_wp2_with (((with_reducible refine gate_callee (f:=63) rfl ?_);refine zX (some 77) Tryz.func63 #[.agg #[.int .i64 ((rd_T43 (rd_L3 l0_1 x4_3) x5_4).f0),.string ((rd_T43 (rd_L3 l0_1 x4_3) x5_4).f1),.string ((rd_T43 (rd_L3 l0_1 x4_3) x5_4).f2),.string ((rd_T43 (rd_L3 l0_1 x4_3) x5_4).f3)]] ?_;(with_reducible refine(legationref01_Right.calls k4 ((rd_T43 (rd_L3 l0_1 x4_3) x5_4).f0) ((rd_T43 (rd_L3 l0_1 x4_3) x5_4).f1) ((rd_T43 (rd_L3 l0_1 x4_3) x5_4).f2) ((rd_T43 (rd_L3 l0_1 x4_3) x5_4).f3) false _ A34.out).mono ?_);rintro e w44 ⟨rfl,hb⟩;refine⟨_,rfl,?_⟩;replace BK298:=zB BK298.out hb;replace HB:=zS HB.out hb;(try clear hb)));go_ret;exact⟨by rfl,HB.out⟩
                 ·rw[if_neg c33]at H;exact absurd H (by simp)
                ·rw[if_neg c32]at H;have c32b0:decide (x5_4<((rd_L3 l0_1 x4_3).length:Int))=false:=decide_eq_false c32;clear c32;have H':=zA H;clear H;have hcz45_1:wr.cell? ⟨gb298,1,none⟩=some (.slice (some ad304) l0_1.length c0_1):=(blk_cell BK298.out 1).trans rfl;have p305:0≤(x4_3:Int):=zD;have q305:x4_3<(l0_1.length:Int):=zD;obtain⟨ad305,A305_0,c305_0,e305,hx305_0,hl305_0,hi305_0⟩:=at_L3 HR0_1.out x4_3 p305 q305;obtain rfl:ad304=ad305:=(by injection e305);replace hx305_0:=(HB.out.cell (World.block_lt_of_cell? w _ hx305_0)).trans hx305_0;have HR305_0:=zA hi305_0;have HC305_0:=zA hl305_0;clear hi305_0 hl305_0;replace p305:=eq_true p305;replace q305:=eq_true q305;go_wp2;go_roundg k4;(case measure=>have:=HJ1.out;have:=HK2.out;have:=HK3.out;have:=HK4.out;omega);case rel=>exact⟨(wrap64 (x4_3+1)),(by rfl),H',⟨by have:=HJ1.out;have:=HK2.out;have:=HK3.out;have:=HK4.out;omega⟩,⟨by exact BK298.out⟩,⟨HB.out⟩⟩
               ·rw[if_neg c31]at H;exact absurd H (by simp)
              ·rw[if_neg c30]at H;exact absurd H (by simp)
           ·rw[if_neg c27]at H;have c27b1:(((rd_L3 l0_1 x4_3).length:Int) !=(l0_0.length:Int))=true:=bne_iff_ne.mpr c27;obtain rfl:=Option.some.inj H;have hcz46_1:=zc21 BK298.out;(try go_wp2);replace BK298:=zA (blk_drew BK298.out);replace HB:=zA (below_drew1 HB.out);have p304:0≤(x4_3:Int):=zD;have q304:x4_3<(l0_1.length:Int):=zD;obtain⟨ad304,A304_0,c304_0,e304,hx304_0,hl304_0,hi304_0⟩:=at_L3 HR0_1.out x4_3 p304 q304;have hw304_0:=hx304_0;cases e304
            replace hx304_0:=(HB.out.cell (World.block_lt_of_cell? w _ hx304_0)).trans hx304_0;have HR304_0:=zA hi304_0;have HC304_0:=zA hl304_0;clear hi304_0 hl304_0;replace p304:=eq_true p304;replace q304:=eq_true q304;refine start_ (n:=10) (S:=fun w'=>w'.cell? ⟨gb298,0,none⟩=some (.slice A0_0 l0_0.length c0_0)∧w'.cell? ⟨gb298,1,none⟩=some (.slice (some ad304) l0_1.length c0_1)∧w'.cell? (ad304.add (x4_3).toNat)=some (.slice A304_0 (rd_L3 l0_1 x4_3).length c304_0)) (ds:= []) #[false,false,false,false,false,false,false,false,false,false] (by kernel_rfl) rfl rfl ⟨(blk_cell BK298.out 0).trans rfl,(blk_cell BK298.out 1).trans rfl,((HB.out.cell (World.block_lt_of_cell? w _ hw304_0)).trans hw304_0)⟩ (fun hHeld=>?_);refine with_tabW legationref11_Right.tab11 legationref11_Right.bits11 (fun HT_ HW_=>?_);generalize wr.drew=w47 at BK298 HB HR304_0 hx304_0 hHeld ⊢;refine pure_ (i:=0) (N:=some 49) (v:=?_) (a':=?_) #[true,false,false,false,false,false,false,false,false,false] rfl rfl (any_of HT_.out (by kernel_rfl)) (fun _ _ _ h=>h) (Or.inl ⟨by rfl,?_⟩) ?_ ?_;rotate_left
            ·intro w';go_simp;with_reducible rfl
            rotate_left
            ·simp only[Act.put,List.setIfInBounds_toArray,List.set_cons_zero,List.set_cons_succ,i64_w,i32_w];rfl
            refine pure_ (i:=2) (N:=some 51) (v:=?_) (a':=?_) #[true,false,true,false,false,false,false,false,false,false] rfl rfl (any_of HT_.out (by kernel_rfl)) (fun _ _ _ h=>h) (Or.inl ⟨by rfl,?_⟩) ?_ ?_;rotate_left
            ·intro w';go_simp;with_reducible rfl
            rotate_left
            ·simp only[Act.put,List.setIfInBounds_toArray,List.set_cons_zero,List.set_cons_succ,i64_w,i32_w];rfl
            refine pure_ (i:=6) (N:=some 55) (v:=?_) (a':=?_) #[true,false,true,false,false,false,true,false,false,false] rfl rfl (any_of HT_.out (by kernel_rfl)) (fun _ _ _ h=>h) (Or.inl ⟨by rfl,?_⟩) ?_ ?_;rotate_left
            ·intro w';go_simp;with_reducible rfl
            rotate_left
            ·simp only[Act.put,List.setIfInBounds_toArray,List.set_cons_zero,List.set_cons_succ,i64_w,i32_w];rfl
            refine take_ (i:=1) (N:=some 50) (v:=?_) (a':=?_) #[true,true,true,false,false,false,true,false,false,false] rfl rfl (take_ofW HT_.out HW_.out (by kernel_rfl)) (fun _ _ _ h=>h) (Or.inl ⟨by rfl,?_⟩) hHeld ?_ ?_;rotate_left
            ·rintro w' ⟨s0,s1,s2⟩;go_simp;with_reducible rfl
            rotate_left
            ·simp only[Act.put,List.setIfInBounds_toArray,List.set_cons_zero,List.set_cons_succ,i64_w,i32_w];rfl
            refine pure_ (i:=3) (N:=some 52) (v:=?_) (a':=?_) #[true,true,true,true,false,false,true,false,false,false] rfl rfl (any_of HT_.out (by kernel_rfl)) (fun _ _ _ h=>h) (Or.inl ⟨by rfl,?_⟩) ?_ ?_;rotate_left
            ·intro w';go_simp;with_reducible rfl
            rotate_left
            ·simp only[Act.put,List.setIfInBounds_toArray,List.set_cons_zero,List.set_cons_succ,i64_w,i32_w];rfl
            refine take_ (i:=4) (N:=some 53) (v:=?_) (a':=?_) #[true,true,true,true,true,false,true,false,false,false] rfl rfl (take_ofW HT_.out HW_.out (by kernel_rfl)) (fun _ _ _ h=>h) (Or.inl ⟨by rfl,?_⟩) hHeld ?_ ?_;rotate_left
            ·rintro w' ⟨s0,s1,s2⟩;go_simp;with_reducible rfl
            rotate_left
            ·simp only[Act.put,List.setIfInBounds_toArray,List.set_cons_zero,List.set_cons_succ,i64_w,i32_w];rfl
            refine pure_ (i:=5) (N:=some 54) (v:=?_) (a':=?_) #[true,true,true,true,true,true,true,false,false,false] rfl rfl (any_of HT_.out (by kernel_rfl)) (fun _ _ _ h=>h) (Or.inl ⟨by rfl,?_⟩) ?_ ?_;rotate_left
            ·intro w';go_simp;with_reducible rfl
            rotate_left
            ·simp only[Act.put,List.setIfInBounds_toArray,List.set_cons_zero,List.set_cons_succ,i64_w,i32_w];rfl
            refine take_ (i:=7) (N:=some 56) (v:=?_) (a':=?_) #[true,true,true,true,true,true,true,true,false,false] rfl rfl (take_ofW HT_.out HW_.out (by kernel_rfl)) (fun _ _ _ h=>h) (Or.inl ⟨by rfl,?_⟩) hHeld ?_ ?_;rotate_left
            ·rintro w' ⟨s0,s1,s2⟩;go_simp;with_reducible rfl
            rotate_left
            ·simp only[Act.put,List.setIfInBounds_toArray,List.set_cons_zero,List.set_cons_succ,i64_w,i32_w];rfl
            refine pure_ (i:=8) (N:=some 57) (v:=?_) (a':=?_) #[true,true,true,true,true,true,true,true,true,false] rfl rfl (any_of HT_.out (by kernel_rfl)) (fun _ _ _ h=>h) (Or.inl ⟨by rfl,?_⟩) ?_ ?_;rotate_left
            ·intro w';go_simp;with_reducible rfl
            rotate_left
            ·simp only[Act.put,List.setIfInBounds_toArray,List.set_cons_zero,List.set_cons_succ,i64_w,i32_w];rfl
            refine pure_ (i:=9) (N:=some 58) (v:=?_) (a':=?_) #[true,true,true,true,true,true,true,true,true,true] rfl rfl (any_of HT_.out (by kernel_rfl)) (fun _ _ _ h=>h) (Or.inl ⟨by rfl,?_⟩) ?_ ?_;rotate_left
            ·intro w';go_simp;with_reducible rfl
            rotate_left
            ·simp only[Act.put,List.setIfInBounds_toArray,List.set_cons_zero,List.set_cons_succ,i64_w,i32_w];rfl
            refine done_ (done_of HT_.out (by kernel_rfl)) ?_;(try go_wp2);go_ret;exact⟨by rfl,HB.out⟩
          ·rw[if_neg c26]at H;exact absurd H (by simp)
         ·rw[if_neg c25]at H;have c25b0:decide (x4_3<(l0_1.length:Int))=false:=decide_eq_false c25;clear c25;obtain rfl:=Option.some.inj H;have hcz48_1:=zc21 BK298.out;go_wp2;go_ret;exact⟨by rfl,HB.out⟩
end Go.Proofs.YtgabadlneeffkaaGreatDoor.G
