import Derived.Test.YtgabadlneeffkaaGreatDoorLJx0
import Derived.Test.YtgabadlneeffkaaGreatDoorLJx16
namespace Go.Proofs.YtgabadlneeffkaaGreatDoor.G
open Go.RowKit Go.Proofs.YtgabadlneeffkaaGreatDoorW.PrintWords Go.Proofs.YtgabadlneeffkaaGreatDoorW.PrintLast Go.Proofs.YtgabadlneeffkaaGreatDoorW.PrintMore
attribute [local go_sem] max2_int min2_int max_two min_two max_three min_three max_four min_four
set_option linter.unusedVariables false
set_option maxHeartbeats 8000000
set_option maxRecDepth 100000
set_option linter.unusedSimpArgs false
def legationref17_rightRows.l0 : Nat → Int → List ByteArray → List (List (S43)) → Option (Bool)
  | 0, _, _, _ => none
  | k + 1, x3, x312000, x312001 => if x3 < (x312001.length : Int) then (if 0 ≤ x3 then (if x3 ≤ (wrap64 (x3 + 1)) then (if (wrap64 (x3 + 1)) ≤ (x312001.length : Int) then ((legationref11_Right.f k x312000 ((x312001.take ((wrap64 (x3 + 1)) : Int).toNat).drop (x3 : Int).toNat)).bind fun t317 => (if t317 = true then (legationref17_rightRows.l0 k (wrap64 (x3 + 1)) x312000 x312001) else (some false))) else (none)) else (none)) else (none)) else (some true)
def legationref17_rightRows.f (k : Nat) (l0_0 : List ByteArray) (l0_1 : List (List (S43))) : Option (Bool) := (legationref11_Right.f k l0_0 ([] : List (List (S43)))).bind fun t312 => (if t312 = true then (legationref17_rightRows.l0 k 0 l0_0 l0_1) else (some false))
def legationref17_rightRows.T6 : Bool × List (List Nat × List Nat) := (true, [([], []), ([0], [0]), ([], []), ([2], [2]), ([], []), ([], []), ([5], [5]), ([3, 4, 6], [3, 4, 6]), ([1, 7], [1, 7]), ([8], [8]), ([9], [9])])
def legationref17_rightRows.B6 : List Nat := [0, 1, 0, 4, 0, 0, 32, 124, 255, 511, 1023]
theorem legationref17_rightRows.tab6:rtab .any (opsOf Tryz.f18 6)=legationref17_rightRows.T6:=by kernel_rfl
theorem legationref17_rightRows.bits6:waitsOk legationref17_rightRows.T6.2 legationref17_rightRows.B6=true:=by kernel_rfl
theorem legationref17_rightRows.calls (k:Nat) (A0_0:Option Addr) (c0_0:Nat) (l0_0:List ByteArray) (A0_1:Option Addr) (c0_1:Nat) (l0_1:List (List (S43))) (r:Bool) (w:World) (hr0_0:Kd.C Kd.string w A0_0 l0_0.length l0_0) (hc0_0:l0_0.length≤c0_0) (hr0_1:Kd.C (Kd.slice 43 k43) w A0_1 l0_1.length l0_1) (hc0_1:l0_1.length≤c0_1) (h:legationref17_rightRows.f k l0_0 l0_1=some r):
 Calls Tryz.prog 18 #[.agg #[.slice A0_0 l0_0.length c0_0,.slice A0_1 l0_1.length c0_1]] w fun e w'=>e= .returned (.bool r)∧Below w.heap.size w w':=by
 have HR0_0:=zA hr0_0;have HC0_0:=zA hc0_0;clear hr0_0 hc0_0;have HR0_1:=zA hr0_1;have HC0_1:=zA hc0_1;clear hr0_1 hc0_1;have HB:=zA (Below.refl w.heap.size w);have H:((legationref11_Right.f k l0_0 ([]:List (List (S43)))).bind fun t312=>(if t312=true then(legationref17_rightRows.l0 k 0 l0_0 l0_1)else(some false)))=some r:=h;clear h;replace H:=zO H;obtain⟨t312,A20,H⟩:=H;have A2:=zA A20;clear A20;by_cases c3:t312=true
 ·subst c3;rw[if_pos rfl]at H;have H':=zA H;clear H;go_enter Tryz.func18,Tryz.ntmps18;go_wp2_with (first|((with_reducible refine gate_dst (N:=1) rfl ?_);refine zE #[.slice A0_0 l0_0.length c0_0,.slice A0_1 l0_1.length c0_1] 25 ?_;intro gb311 hg w4 hbox hb;have BK311:=zA hbox;have GW311:=zZ HB.out hg;replace HB:=zS HB.out hb;clear hb hbox hg;have hcz5_0:=zc20 BK311.out)|((with_reducible refine gate_callee (f:=37) rfl ?_);refine zX (some 7) Tryz.func37 #[.agg #[.slice A0_0 l0_0.length c0_0,.slice none 0 0]] ?_;(refine(legationref11_Right.calls k _ _ l0_0 _ _ ([]:List (List (S43))) true _ ?side1 ?side2 ?side3 ?side4 A2.out).mono ?_);(case side1=>exact Kd.C_below HR0_0.out HB.out);(case side2=>exact HC0_0.out);(case side3=>exact Kd.C_nil _ _);(case side4=>exact Nat.le_refl _);rintro e w6 ⟨rfl,hb⟩;refine⟨_,rfl,?_⟩;replace BK311:=zB BK311.out hb;replace HB:=zS HB.out hb;(try clear hb)));go_loopg [3] k (fun kq v3 w'=> ∃ (x3_1:Int),v3= .int .i64 x3_1∧Aside0 (legationref17_rightRows.l0 kq x3_1 l0_0 l0_1=some r)∧Aside0 (kq≤k)∧Aside0 (w'.heap[gb311]? =some (.cells #[(.slice A0_0 l0_0.length c0_0),(.slice A0_1 l0_1.length c0_1)] 25 (0,0)))∧Aside0 (Below w.heap.size w w'));(case atStart=>exact⟨(0),(by rfl),H',⟨Nat.le_refl _⟩,⟨by exact BK311.out⟩,⟨HB.out⟩⟩);case round=>
   clear H';(try clear hcz5_0);obtain⟨x3_1,rfl,HA,HK1,BK311,HB⟩:=hrel;cases gk with
   |zero=>exact absurd HA.out (by simp[legationref17_rightRows.l0])
   |succ k1=>
    have H:=HA.out;clear HA;simp only[legationref17_rightRows.l0]at H;by_cases c7:x3_1<(l0_1.length:Int)
    ·rw[if_pos c7]at H;have c7b0:decide (x3_1<(l0_1.length:Int))=true:=decide_eq_true c7;clear c7;by_cases c8:0≤x3_1
     ·rw[if_pos c8]at H;have c8b1:decide (0≤x3_1)=true:=decide_eq_true c8;clear c8;by_cases c9:x3_1≤(wrap64 (x3_1+1))
      ·rw[if_pos c9]at H;have c9b1:decide (x3_1≤(wrap64 (x3_1+1)))=true:=decide_eq_true c9;by_cases c10:(wrap64 (x3_1+1))≤(l0_1.length:Int)
       ·rw[if_pos c10]at H;have c10b1:decide ((wrap64 (x3_1+1))≤(l0_1.length:Int))=true:=decide_eq_true c10;obtain⟨y313,hy313⟩: ∃ y_:List (List (S43)),y_=((l0_1.take ((wrap64 (x3_1+1)):Int).toNat).drop (x3_1:Int).toNat):=⟨_,rfl⟩;(replace H:((legationref11_Right.f k1 l0_0 y313).bind fun t317=>(if t317=true then(legationref17_rightRows.l0 k1 (wrap64 (x3_1+1)) l0_0 l0_1)else(some false)))=some r:=by(rw[hy313];with_reducible exact H));have Ny313:=zA hy313;clear hy313;replace H:=zO H;obtain⟨t317,A110,H⟩:=H;have A11:=zA A110;clear A110;by_cases c12:t317=true
        ·subst c12;rw[if_pos rfl]at H;have H':=zA H;clear H;have hcz13_1:=zc21 BK311.out;(try go_wp2);replace BK311:=zA (blk_drew BK311.out);replace HB:=zA (below_drew1 HB.out);have q15:((wrap64 (x3_1+1)):Int)≤((l0_1.length:Int):Int):=zD;obtain⟨i015,hi015,_,hsz15,_⟩:=info_parts info40;have hroom15:l0_1.length≤c0_1:=HC0_1.out;have hC15:Kd.C (Kd.slice 43 k43) _ A0_1 l0_1.length l0_1:=HR0_1.out;have ql15:(x3_1:Int)≤((wrap64 (x3_1+1)):Int):=zD;have q015:(0:Int)≤(x3_1:Int):=zD;have hcut15:=cut_mid (P:=Tryz.prog) 23 40 .i64 .i64 Tryz.underlying23 hi015 1 hsz15 A0_1 l0_1.length c0_1 x3_1 (wrap64 (x3_1+1)) q015 ql15 q15 hroom15;have hr15:=Kd.C_mid (lo:=(x3_1:Int).toNat) (hi:=((wrap64 (x3_1+1)):Int).toNat) (c:=c0_1) hC15 (by omega) (by omega) hroom15;obtain⟨A15,hA15⟩: ∃ A1,A1=(if c0_1=(x3_1:Int).toNat then A0_1 else(A0_1:Option Addr).map (·.add ((x3_1:Int).toNat*1))):=⟨_,rfl⟩;obtain⟨c15,hc15⟩: ∃ c1,c1=c0_1 - (x3_1:Int).toNat:=⟨_,rfl⟩;have hy15:y313.length=((wrap64 (x3_1+1)):Int).toNat - (x3_1:Int).toNat:=(by rw[Ny313.out,List.length_drop,List.length_take]<;>omega);rw[show((l0_1).take ((wrap64 (x3_1+1)):Int).toNat).drop (x3_1:Int).toNat=y313 from Ny313.out.symm]at hr15;replace hr15:Kd.C (Kd.slice 43 k43) _ A15 y313.length y313:=(by rw[hA15];exact hr15);rw[← hy15,← hA15,← hc15]at hcut15;have HR316:=zA hr15;have HC316:=zA (show y313.length≤c15 from by rw[hy15,hc15];exact Nat.sub_le_sub_right (Nat.le_trans (by omega) hroom15) _);clear hr15 hC15 hroom15 hi015 hsz15 hc15;have KY15:=zA hy15;have KA15:=zA hA15;clear hy15 hA15;replace q15:=eq_true q15;refine start_ (n:=11) (S:=fun w'=>w'.cell? ⟨gb311,0,none⟩=some (.slice A0_0 l0_0.length c0_0)∧w'.cell? ⟨gb311,1,none⟩=some (.slice A0_1 l0_1.length c0_1)) (ds:= []) #[false,false,false,false,false,false,false,false,false,false,false] (by kernel_rfl) rfl rfl ⟨(blk_cell BK311.out 0).trans rfl,(blk_cell BK311.out 1).trans rfl⟩ (fun hHeld=>?_);refine with_tabW legationref17_rightRows.tab6 legationref17_rightRows.bits6 (fun HT_ HW_=>?_);generalize wr.drew=w14 at BK311 HB HR316 hHeld ⊢;refine pure_ (i:=0) (N:=some 16) (v:=?_) (a':=?_) #[true,false,false,false,false,false,false,false,false,false,false] rfl rfl (any_of HT_.out (by kernel_rfl)) (fun _ _ _ h=>h) (Or.inl ⟨by rfl,?_⟩) ?_ ?_;rotate_left
         ·intro w';go_simp;with_reducible rfl
         rotate_left
         ·simp only[Act.put,List.setIfInBounds_toArray,List.set_cons_zero,List.set_cons_succ,i64_w,i32_w];rfl
         refine pure_ (i:=2) (N:=some 18) (v:=?_) (a':=?_) #[true,false,true,false,false,false,false,false,false,false,false] rfl rfl (any_of HT_.out (by kernel_rfl)) (fun _ _ _ h=>h) (Or.inl ⟨by rfl,?_⟩) ?_ ?_;rotate_left
         ·intro w';go_simp;with_reducible rfl
         rotate_left
         ·simp only[Act.put,List.setIfInBounds_toArray,List.set_cons_zero,List.set_cons_succ,i64_w,i32_w];rfl
         refine pure_ (i:=4) (N:=some 20) (v:=?_) (a':=?_) #[true,false,true,false,true,false,false,false,false,false,false] rfl rfl (any_of HT_.out (by kernel_rfl)) (fun _ _ _ h=>h) (Or.inl ⟨by rfl,?_⟩) ?_ ?_;rotate_left
         ·intro w';go_simp;with_reducible rfl
         rotate_left
         ·simp only[Act.put,List.setIfInBounds_toArray,List.set_cons_zero,List.set_cons_succ,i64_w,i32_w];rfl
         refine pure_ (i:=5) (N:=some 21) (v:=?_) (a':=?_) #[true,false,true,false,true,true,false,false,false,false,false] rfl rfl (any_of HT_.out (by kernel_rfl)) (fun _ _ _ h=>h) (Or.inl ⟨by rfl,?_⟩) ?_ ?_;rotate_left
         ·intro w';go_simp;with_reducible rfl
         rotate_left
         ·simp only[Act.put,List.setIfInBounds_toArray,List.set_cons_zero,List.set_cons_succ,i64_w,i32_w];rfl
         refine pure_ (i:=6) (N:=some 22) (v:=?_) (a':=?_) #[true,false,true,false,true,true,true,false,false,false,false] rfl rfl (any_of HT_.out (by kernel_rfl)) (fun _ _ _ h=>h) (Or.inl ⟨by rfl,?_⟩) ?_ ?_;rotate_left
         ·intro w';go_simp;with_reducible rfl
         rotate_left
         ·simp only[Act.put,List.setIfInBounds_toArray,List.set_cons_zero,List.set_cons_succ,i64_w,i32_w];rfl
         refine take_ (i:=1) (N:=some 17) (v:=?_) (a':=?_) #[true,true,true,false,true,true,true,false,false,false,false] rfl rfl (take_ofW HT_.out HW_.out (by kernel_rfl)) (fun _ _ _ h=>h) (Or.inl ⟨by rfl,?_⟩) hHeld ?_ ?_;rotate_left
         ·rintro w' ⟨s0,s1⟩;go_simp;with_reducible rfl
         rotate_left
         ·simp only[Act.put,List.setIfInBounds_toArray,List.set_cons_zero,List.set_cons_succ,i64_w,i32_w];rfl
         refine take_ (i:=3) (N:=some 19) (v:=?_) (a':=?_) #[true,true,true,true,true,true,true,false,false,false,false] rfl rfl (take_ofW HT_.out HW_.out (by kernel_rfl)) (fun _ _ _ h=>h) (Or.inl ⟨by rfl,?_⟩) hHeld ?_ ?_;rotate_left
         ·rintro w' ⟨s0,s1⟩;go_simp;with_reducible rfl
         rotate_left
         ·simp only[Act.put,List.setIfInBounds_toArray,List.set_cons_zero,List.set_cons_succ,i64_w,i32_w];rfl
         refine pure_ (i:=7) (N:=some 23) (v:=?_) (a':=?_) #[true,true,true,true,true,true,true,true,false,false,false] rfl rfl (any_of HT_.out (by kernel_rfl)) (fun _ _ _ h=>h) (Or.inl ⟨by rfl,?_⟩) ?_ ?_;rotate_left
         ·intro w';go_simp;with_reducible rfl
         rotate_left
         ·simp only[Act.put,List.setIfInBounds_toArray,List.set_cons_zero,List.set_cons_succ,i64_w,i32_w];rfl
         refine pure_ (i:=8) (N:=some 24) (v:=?_) (a':=?_) #[true,true,true,true,true,true,true,true,true,false,false] rfl rfl (any_of HT_.out (by kernel_rfl)) (fun _ _ _ h=>h) (Or.inl ⟨by rfl,?_⟩) ?_ ?_;rotate_left
         ·intro w';go_simp;with_reducible rfl
         rotate_left
         ·simp only[Act.put,List.setIfInBounds_toArray,List.set_cons_zero,List.set_cons_succ,i64_w,i32_w];rfl
         refine one_ (i:=9) (N:=some 25) #[true,true,true,true,true,true,true,true,true,true,false] rfl rfl (one_of HT_.out (by kernel_rfl)) (by decide) (fun K hK=>?_);refine goes_ Tryz.func37 (by kernel_rfl) rfl #[.agg #[.slice A0_0 l0_0.length c0_0,.slice A15 y313.length c15]] (by rfl) rfl rfl (by(try simp only[List.map_toArray,List.map_cons,List.map_nil]);rfl) ?_;(with_reducible refine(legationref11_Right.calls k1 _ _ l0_0 _ _ y313 true _ ?side1 ?side2 ?side3 ?side4 A11.out).mono ?_);(case side1=>exact Kd.C_below HR0_0.out HB.out);(case side2=>exact HC0_0.out);(case side3=>exact Kd.C_below HR316.out HB.out);(case side4=>exact HC316.out);rintro e w16 ⟨rfl,hb⟩;refine⟨_,rfl,?_⟩;replace BK311:=zB BK311.out hb;replace HB:=zS HB.out hb;(try clear hb);refine hK.out _ _ ⟨(blk_cell BK311.out 0).trans rfl,(blk_cell BK311.out 1).trans rfl⟩ (fun hHeld=>?_);clear hK K;refine norm_ (a':=?_) ?_ ?_;rotate_left
         ·(show Act.put _ (some 25) _=_);simp only[Act.put,List.setIfInBounds_toArray,List.set_cons_zero,List.set_cons_succ,i64_w,i32_w];rfl
         refine pure_ (i:=10) (N:=some 26) (v:=?_) (a':=?_) #[true,true,true,true,true,true,true,true,true,true,true] rfl rfl (any_of HT_.out (by kernel_rfl)) (fun _ _ _ h=>h) (Or.inl ⟨by rfl,?_⟩) ?_ ?_;rotate_left
         ·intro w';go_simp;with_reducible rfl
         rotate_left
         ·simp only[Act.put,List.setIfInBounds_toArray,List.set_cons_zero,List.set_cons_succ,i64_w,i32_w];rfl
         refine done_ (done_of HT_.out (by kernel_rfl)) ?_;(try go_wp2);go_roundg k1;(case measure=>have:=HK1.out;omega);case rel=>exact⟨(wrap64 (x3_1+1)),(by rfl),H',⟨by have:=HK1.out;omega⟩,⟨by exact BK311.out⟩,⟨HB.out⟩⟩
        ·replace c12:=Bool.eq_false_iff.mpr c12;subst c12;rw[if_neg (show ¬(false=true)by decide)]at H;obtain rfl:=Option.some.inj H;have hcz17_1:=zc21 BK311.out;(try go_wp2);replace BK311:=zA (blk_drew BK311.out);replace HB:=zA (below_drew1 HB.out);have q19:((wrap64 (x3_1+1)):Int)≤((l0_1.length:Int):Int):=zD;obtain⟨i019,hi019,_,hsz19,_⟩:=info_parts info40;have hroom19:l0_1.length≤c0_1:=HC0_1.out;have hC19:Kd.C (Kd.slice 43 k43) _ A0_1 l0_1.length l0_1:=HR0_1.out;have ql19:(x3_1:Int)≤((wrap64 (x3_1+1)):Int):=zD;have q019:(0:Int)≤(x3_1:Int):=zD;have hcut19:=cut_mid (P:=Tryz.prog) 23 40 .i64 .i64 Tryz.underlying23 hi019 1 hsz19 A0_1 l0_1.length c0_1 x3_1 (wrap64 (x3_1+1)) q019 ql19 q19 hroom19;have hr19:=Kd.C_mid (lo:=(x3_1:Int).toNat) (hi:=((wrap64 (x3_1+1)):Int).toNat) (c:=c0_1) hC19 (by omega) (by omega) hroom19;obtain⟨A19,hA19⟩: ∃ A1,A1=(if c0_1=(x3_1:Int).toNat then A0_1 else(A0_1:Option Addr).map (·.add ((x3_1:Int).toNat*1))):=⟨_,rfl⟩;obtain⟨c19,hc19⟩: ∃ c1,c1=c0_1 - (x3_1:Int).toNat:=⟨_,rfl⟩;have hy19:y313.length=((wrap64 (x3_1+1)):Int).toNat - (x3_1:Int).toNat:=(by rw[Ny313.out,List.length_drop,List.length_take]<;>omega);rw[show((l0_1).take ((wrap64 (x3_1+1)):Int).toNat).drop (x3_1:Int).toNat=y313 from Ny313.out.symm]at hr19;replace hr19:Kd.C (Kd.slice 43 k43) _ A19 y313.length y313:=(by rw[hA19];exact hr19);rw[← hy19,← hA19,← hc19]at hcut19;have HR316:=zA hr19;have HC316:=zA (show y313.length≤c19 from by rw[hy19,hc19];exact Nat.sub_le_sub_right (Nat.le_trans (by omega) hroom19) _);clear hr19 hC19 hroom19 hi019 hsz19 hc19;have KY19:=zA hy19;have KA19:=zA hA19;clear hy19 hA19;replace q19:=eq_true q19;refine start_ (n:=11) (S:=fun w'=>w'.cell? ⟨gb311,0,none⟩=some (.slice A0_0 l0_0.length c0_0)∧w'.cell? ⟨gb311,1,none⟩=some (.slice A0_1 l0_1.length c0_1)) (ds:= []) #[false,false,false,false,false,false,false,false,false,false,false] (by kernel_rfl) rfl rfl ⟨(blk_cell BK311.out 0).trans rfl,(blk_cell BK311.out 1).trans rfl⟩ (fun hHeld=>?_);refine with_tabW legationref17_rightRows.tab6 legationref17_rightRows.bits6 (fun HT_ HW_=>?_);generalize wr.drew=w18 at BK311 HB HR316 hHeld ⊢;refine pure_ (i:=0) (N:=some 16) (v:=?_) (a':=?_) #[true,false,false,false,false,false,false,false,false,false,false] rfl rfl (any_of HT_.out (by kernel_rfl)) (fun _ _ _ h=>h) (Or.inl ⟨by rfl,?_⟩) ?_ ?_;rotate_left
         ·intro w';go_simp;with_reducible rfl
         rotate_left
         ·simp only[Act.put,List.setIfInBounds_toArray,List.set_cons_zero,List.set_cons_succ,i64_w,i32_w];rfl
         refine pure_ (i:=2) (N:=some 18) (v:=?_) (a':=?_) #[true,false,true,false,false,false,false,false,false,false,false] rfl rfl (any_of HT_.out (by kernel_rfl)) (fun _ _ _ h=>h) (Or.inl ⟨by rfl,?_⟩) ?_ ?_;rotate_left
         ·intro w';go_simp;with_reducible rfl
         rotate_left
         ·simp only[Act.put,List.setIfInBounds_toArray,List.set_cons_zero,List.set_cons_succ,i64_w,i32_w];rfl
         refine pure_ (i:=4) (N:=some 20) (v:=?_) (a':=?_) #[true,false,true,false,true,false,false,false,false,false,false] rfl rfl (any_of HT_.out (by kernel_rfl)) (fun _ _ _ h=>h) (Or.inl ⟨by rfl,?_⟩) ?_ ?_;rotate_left
         ·intro w';go_simp;with_reducible rfl
         rotate_left
         ·simp only[Act.put,List.setIfInBounds_toArray,List.set_cons_zero,List.set_cons_succ,i64_w,i32_w];rfl
         refine pure_ (i:=5) (N:=some 21) (v:=?_) (a':=?_) #[true,false,true,false,true,true,false,false,false,false,false] rfl rfl (any_of HT_.out (by kernel_rfl)) (fun _ _ _ h=>h) (Or.inl ⟨by rfl,?_⟩) ?_ ?_;rotate_left
         ·intro w';go_simp;with_reducible rfl
         rotate_left
         ·simp only[Act.put,List.setIfInBounds_toArray,List.set_cons_zero,List.set_cons_succ,i64_w,i32_w];rfl
         refine pure_ (i:=6) (N:=some 22) (v:=?_) (a':=?_) #[true,false,true,false,true,true,true,false,false,false,false] rfl rfl (any_of HT_.out (by kernel_rfl)) (fun _ _ _ h=>h) (Or.inl ⟨by rfl,?_⟩) ?_ ?_;rotate_left
         ·intro w';go_simp;with_reducible rfl
         rotate_left
         ·simp only[Act.put,List.setIfInBounds_toArray,List.set_cons_zero,List.set_cons_succ,i64_w,i32_w];rfl
         refine take_ (i:=1) (N:=some 17) (v:=?_) (a':=?_) #[true,true,true,false,true,true,true,false,false,false,false] rfl rfl (take_ofW HT_.out HW_.out (by kernel_rfl)) (fun _ _ _ h=>h) (Or.inl ⟨by rfl,?_⟩) hHeld ?_ ?_;rotate_left
         ·rintro w' ⟨s0,s1⟩;go_simp;with_reducible rfl
         rotate_left
         ·simp only[Act.put,List.setIfInBounds_toArray,List.set_cons_zero,List.set_cons_succ,i64_w,i32_w];rfl
         refine take_ (i:=3) (N:=some 19) (v:=?_) (a':=?_) #[true,true,true,true,true,true,true,false,false,false,false] rfl rfl (take_ofW HT_.out HW_.out (by kernel_rfl)) (fun _ _ _ h=>h) (Or.inl ⟨by rfl,?_⟩) hHeld ?_ ?_;rotate_left
         ·rintro w' ⟨s0,s1⟩;go_simp;with_reducible rfl
         rotate_left
         ·simp only[Act.put,List.setIfInBounds_toArray,List.set_cons_zero,List.set_cons_succ,i64_w,i32_w];rfl
         refine pure_ (i:=7) (N:=some 23) (v:=?_) (a':=?_) #[true,true,true,true,true,true,true,true,false,false,false] rfl rfl (any_of HT_.out (by kernel_rfl)) (fun _ _ _ h=>h) (Or.inl ⟨by rfl,?_⟩) ?_ ?_;rotate_left
         ·intro w';go_simp;with_reducible rfl
         rotate_left
         ·simp only[Act.put,List.setIfInBounds_toArray,List.set_cons_zero,List.set_cons_succ,i64_w,i32_w];rfl
         refine pure_ (i:=8) (N:=some 24) (v:=?_) (a':=?_) #[true,true,true,true,true,true,true,true,true,false,false] rfl rfl (any_of HT_.out (by kernel_rfl)) (fun _ _ _ h=>h) (Or.inl ⟨by rfl,?_⟩) ?_ ?_;rotate_left
         ·intro w';go_simp;with_reducible rfl
         rotate_left
         ·simp only[Act.put,List.setIfInBounds_toArray,List.set_cons_zero,List.set_cons_succ,i64_w,i32_w];rfl
         refine one_ (i:=9) (N:=some 25) #[true,true,true,true,true,true,true,true,true,true,false] rfl rfl (one_of HT_.out (by kernel_rfl)) (by decide) (fun K hK=>?_);refine goes_ Tryz.func37 (by kernel_rfl) rfl #[.agg #[.slice A0_0 l0_0.length c0_0,.slice A19 y313.length c19]] (by rfl) rfl rfl (by(try simp only[List.map_toArray,List.map_cons,List.map_nil]);rfl) ?_;(with_reducible refine(legationref11_Right.calls k1 _ _ l0_0 _ _ y313 false _ ?side1 ?side2 ?side3 ?side4 A11.out).mono ?_);(case side1=>exact Kd.C_below HR0_0.out HB.out);(case side2=>exact HC0_0.out);(case side3=>exact Kd.C_below HR316.out HB.out);(case side4=>exact HC316.out);rintro e w20 ⟨rfl,hb⟩;refine⟨_,rfl,?_⟩;replace BK311:=zB BK311.out hb;replace HB:=zS HB.out hb;(try clear hb);refine hK.out _ _ ⟨(blk_cell BK311.out 0).trans rfl,(blk_cell BK311.out 1).trans rfl⟩ (fun hHeld=>?_);clear hK K;refine norm_ (a':=?_) ?_ ?_;rotate_left
         ·(show Act.put _ (some 25) _=_);simp only[Act.put,List.setIfInBounds_toArray,List.set_cons_zero,List.set_cons_succ,i64_w,i32_w];rfl
         refine pure_ (i:=10) (N:=some 26) (v:=?_) (a':=?_) #[true,true,true,true,true,true,true,true,true,true,true] rfl rfl (any_of HT_.out (by kernel_rfl)) (fun _ _ _ h=>h) (Or.inl ⟨by rfl,?_⟩) ?_ ?_;rotate_left
         ·intro w';go_simp;with_reducible rfl
         rotate_left
         ·simp only[Act.put,List.setIfInBounds_toArray,List.set_cons_zero,List.set_cons_succ,i64_w,i32_w];rfl
         refine done_ (done_of HT_.out (by kernel_rfl)) ?_;(try go_wp2);go_ret;exact⟨by rfl,HB.out⟩
       ·rw[if_neg c10]at H;exact absurd H (by simp)
      ·rw[if_neg c9]at H;exact absurd H (by simp)
     ·rw[if_neg c8]at H;exact absurd H (by simp)
    ·rw[if_neg c7]at H;have c7b0:decide (x3_1<(l0_1.length:Int))=false:=decide_eq_false c7;clear c7;obtain rfl:=Option.some.inj H;have hcz21_1:=zc21 BK311.out;go_wp2;go_ret;exact⟨by rfl,HB.out⟩
 ·replace c3:=Bool.eq_false_iff.mpr c3;subst c3;rw[if_neg (show ¬(false=true)by decide)]at H;obtain rfl:=Option.some.inj H;go_enter Tryz.func18,Tryz.ntmps18;go_wp2_with (first|((with_reducible refine gate_dst (N:=1) rfl ?_);refine zE #[.slice A0_0 l0_0.length c0_0,.slice A0_1 l0_1.length c0_1] 25 ?_;intro gb311 hg w22 hbox hb;have BK311:=zA hbox;have GW311:=zZ HB.out hg;replace HB:=zS HB.out hb;clear hb hbox hg;have hcz23_0:=zc20 BK311.out)|((with_reducible refine gate_callee (f:=37) rfl ?_);refine zX (some 7) Tryz.func37 #[.agg #[.slice A0_0 l0_0.length c0_0,.slice none 0 0]] ?_;(refine(legationref11_Right.calls k _ _ l0_0 _ _ ([]:List (List (S43))) false _ ?side1 ?side2 ?side3 ?side4 A2.out).mono ?_);(case side1=>exact Kd.C_below HR0_0.out HB.out);(case side2=>exact HC0_0.out);(case side3=>exact Kd.C_nil _ _);(case side4=>exact Nat.le_refl _);rintro e w24 ⟨rfl,hb⟩;refine⟨_,rfl,?_⟩;replace BK311:=zB BK311.out hb;replace HB:=zS HB.out hb;(try clear hb)));go_ret;exact⟨by rfl,HB.out⟩
end Go.Proofs.YtgabadlneeffkaaGreatDoor.G
