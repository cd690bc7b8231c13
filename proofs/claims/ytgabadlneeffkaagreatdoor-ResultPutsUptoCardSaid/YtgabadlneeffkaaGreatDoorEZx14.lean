-- Written by lp.py: a program of this session's over the kit's printer. Not trusted: Lean checks it.
import Derived.Test.YtgabadlneeffkaaGreatDoorEZx0
import Derived.Test.YtgabadlneeffkaaGreatDoorEZx12
import Derived.Test.YtgabadlneeffkaaGreatDoorEZx13
namespace Go.Proofs.YtgabadlneeffkaaGreatDoor.P
open Go.RowKit Go.Proofs.YtgabadlneeffkaaGreatDoorW.PrintWords Go.Proofs.YtgabadlneeffkaaGreatDoorW.PrintLast Go.Proofs.YtgabadlneeffkaaGreatDoorW.PrintMore
attribute [local go_sem] max2_int min2_int max_two min_two max_three min_three max_four min_four
set_option linter.unusedVariables false
set_option linter.unusedSimpArgs false
mutual
def legationref11_Right.j0 : Nat → Bool → List ByteArray → List (List (S43)) → Option (Bool)
  | 0, _, _, _ => none
  | k + 1, x15, x269000, x269001 => if x15 = true then (some false) else (legationref11_Right.l0 k 0 x269000 x269001)
def legationref11_Right.l0 : Nat → Int → List ByteArray → List (List (S43)) → Option (Bool)
  | 0, _, _, _ => none
  | k + 1, x3, x269000, x269001 => if x3 < (x269000.length : Int) then (if 0 ≤ x3 then ((legationref01_IsName.f k (rdOf ByteArray.empty x269000 x3)).bind fun t270 => (if t270 = true then (if x3 ≤ (x269000.length : Int) then ((legationref03_In.f k (x269000.take (x3 : Int).toNat) (rdOf ByteArray.empty x269000 x3)).bind fun t273 => (if t273 = true then (some false) else (legationref11_Right.l0 k (wrap64 (x3 + 1)) x269000 x269001))) else (none)) else (some false))) else (none)) else (legationref11_Right.l1 k 0 x269000 x269001)
def legationref11_Right.l1 : Nat → Int → List ByteArray → List (List (S43)) → Option (Bool)
  | 0, _, _, _ => none
  | k + 1, x4, x269000, x269001 => if x4 < (x269001.length : Int) then (if 0 ≤ x4 then (if ((rd_L3 x269001 x4).length : Int) = (x269000.length : Int) then (legationref11_Right.l2 k x4 0 x269000 x269001) else (some false)) else (none)) else (some true)
def legationref11_Right.l2 : Nat → Int → Int → List ByteArray → List (List (S43)) → Option (Bool)
  | 0, _, _, _, _ => none
  | k + 1, x4, x5, x269000, x269001 => if 0 ≤ x4 then (if x4 < (x269001.length : Int) then (if x5 < ((rd_L3 x269001 x4).length : Int) then (if 0 ≤ x5 then ((legationref01_Right.f k ((rd_T43 (rd_L3 x269001 x4) x5).f0) ((rd_T43 (rd_L3 x269001 x4) x5).f1) ((rd_T43 (rd_L3 x269001 x4) x5).f2) ((rd_T43 (rd_L3 x269001 x4) x5).f3)).bind fun t278 => (if t278 = true then (if ((rd_T43 (rd_L3 x269001 x4) x5).f0) = 4 then (some false) else (legationref11_Right.l2 k x4 (wrap64 (x5 + 1)) x269000 x269001)) else (some false))) else (none)) else (legationref11_Right.l1 k (wrap64 (x4 + 1)) x269000 x269001)) else (none)) else (none)
end
def legationref11_Right.f (k : Nat) (l0_0 : List ByteArray) (l0_1 : List (List (S43))) : Option (Bool) := if (l0_0.length : Int) > 32 then (legationref11_Right.j0 k true l0_0 l0_1) else (legationref11_Right.j0 k (decide ((l0_1.length : Int) > 4096)) l0_0 l0_1)
def legationref11_Right.T6 : Bool × List (List Nat × List Nat) := (true, [([], []), ([0], [0]), ([], []), ([1, 2], [1, 2]), ([3], [3]), ([4], [4]), ([5], [5]), ([6, 5], [6]), ([7], [7]), ([8, 7], [7, 8]), ([7], [7]), ([9, 10, 7], [7, 9, 10]), ([7], [7]), ([12, 7], [7, 12]), ([7], [7]), ([13, 14, 7], [7, 13, 14]), ([15, 7], [7, 15]), ([11, 16, 7, 7], [7, 11, 16]), ([7, 17], [7, 17])])
def legationref11_Right.B6 : List Nat := [0, 1, 0, 7, 15, 31, 63, 127, 255, 511, 255, 2047, 255, 4351, 255, 28927, 61695, 131071, 262143]
theorem legationref11_Right.tab6:rtab .any (opsOf Tryz.f37 6)=legationref11_Right.T6:=by kernel_rfl
theorem legationref11_Right.bits6:waitsOk legationref11_Right.T6.2 legationref11_Right.B6=true:=by kernel_rfl
def legationref11_Right.T11 : Bool × List (List Nat × List Nat) := (true, [([], []), ([0], [0]), ([], []), ([1, 2], [1, 2]), ([3], [3]), ([4], [4]), ([], []), ([6], [6]), ([7], [7]), ([5, 8], [5, 8])])
def legationref11_Right.B11 : List Nat := [0, 1, 0, 7, 15, 31, 0, 64, 192, 511]
theorem legationref11_Right.tab11:rtab .any (opsOf Tryz.f37 11)=legationref11_Right.T11:=by kernel_rfl
theorem legationref11_Right.bits11:waitsOk legationref11_Right.T11.2 legationref11_Right.B11=true:=by kernel_rfl
set_option maxHeartbeats 8000000 in
set_option maxRecDepth 100000 in
theorem legationref11_Right.calls (k:Nat) (A0_0:Option Addr) (c0_0:Nat) (l0_0:List ByteArray) (A0_1:Option Addr) (c0_1:Nat) (l0_1:List (List (S43))) (r:Bool) (w:World) (hr0_0:Kd.C Kd.string w A0_0 l0_0.length l0_0) (hc0_0:l0_0.length≤c0_0) (hr0_1:Kd.C (Kd.slice 43 k43) w A0_1 l0_1.length l0_1) (hc0_1:l0_1.length≤c0_1) (h:legationref11_Right.f k l0_0 l0_1=some r):
 Calls Tryz.prog 37 #[.agg #[.slice A0_0 l0_0.length c0_0,.slice A0_1 l0_1.length c0_1]] w fun e w'=>e= .returned (.bool r)∧Below w.heap.size w w':=by
 have HR0_0:=Aside0.mk hr0_0;have HC0_0:=Aside0.mk hc0_0;clear hr0_0 hc0_0;have HR0_1:=Aside0.mk hr0_1;have HC0_1:=Aside0.mk hc0_1;clear hr0_1 hc0_1;have HB:=Aside0.mk (Below.refl w.heap.size w);have H:(if(l0_0.length:Int)>32 then(legationref11_Right.j0 k true l0_0 l0_1)else(legationref11_Right.j0 k (decide ((l0_1.length:Int)>4096)) l0_0 l0_1))=some r:=h;clear h;have HC2:=Aside0.mk H;clear H;go_enter Tryz.func37,Tryz.ntmps37;go_upto_region 1 with (((with_reducible refine gate_dst (N:=1) rfl ?_);(try(refine gate_guard (by rfl) ?_;dsimp only));refine box_event ?hg (N:=1) ?hd (cs:= #[.slice A0_0 l0_0.length c0_0,.slice A0_1 l0_1.length c0_1]) (t:=25) ?hr ?_;(case hd=>rfl);(case hg=>rfl);(case hr=>(go_simp;done));intro gb268 hg w3 hbox hb;have n0_:=Aside0.mk (below_step (by repeat((with_reducible exact HB.out))) hb);have n1_:=Aside0.mk (hbox);have n2_:=Aside0.mk ((by rw[hg];exact(below_size (by repeat((with_reducible exact HB.out)))):w.heap.size≤gb268));have n3_:=Aside0.mk ((by rw[hg];exact(below_size (by repeat((with_reducible exact HB.out)))):w.heap.size≤gb268));clear HB;have HB:=n0_;have BK268:=n1_;have GW268:=n2_;have GE268:=n3_;clear n0_ n1_ n2_ n3_;clear hb hbox hg))
 go_cut [15] (fun v15 wc=> ∃ (kq:Nat) (x15_1:Bool),v15= .bool x15_1∧Aside0 (legationref11_Right.j0 kq x15_1 l0_0 l0_1=some r)∧Aside0 (kq≤k)∧Aside0 (wc.heap[gb268]? =some (.cells #[(.slice A0_0 l0_0.length c0_0),(.slice A0_1 l0_1.length c0_1)] 25 (0,0)))∧Aside0 (Below w.heap.size w wc));case first=>
  have H:=HC2.out;clear HC2;by_cases c4:(l0_0.length:Int)>32
  ·rw[if_pos c4]at H;have c4b0:decide (32<(l0_0.length:Int))=true:=decide_eq_true c4;clear c4;have H':=Aside0.mk H;clear H;have hcz5_0:w3.cell? ⟨gb268,0,none⟩=some (.slice A0_0 l0_0.length c0_0):=(blk_cell BK268.out 0).trans rfl;go_wp2;go_meet;case rel=>exact⟨_,(true),(by rfl),H',⟨by omega⟩,⟨by exact BK268.out⟩,⟨by repeat((with_reducible exact HB.out))⟩⟩
  ·rw[if_neg c4]at H;have c4b0:decide (32<(l0_0.length:Int))=false:=decide_eq_false c4;clear c4;have H':=Aside0.mk H;clear H;have hcz6_0:w3.cell? ⟨gb268,0,none⟩=some (.slice A0_0 l0_0.length c0_0):=(blk_cell BK268.out 0).trans rfl;have hcz6_1:w3.cell? ⟨gb268,1,none⟩=some (.slice A0_1 l0_1.length c0_1):=(blk_cell BK268.out 1).trans rfl;go_wp2;go_meet;case rel=>exact⟨_,(decide ((l0_1.length:Int)>4096)),(by rfl),H',⟨by omega⟩,⟨by exact BK268.out⟩,⟨by repeat((with_reducible exact HB.out))⟩⟩
 case rest=>
  clear HC2;obtain⟨kq,x15_1,rfl,HA,HJ1,BK268,HB⟩:=hcut;cases kq with
  |zero=>exact absurd HA.out (by simp[legationref11_Right.j0])
  |succ kj1=>
   have H:=HA.out;clear HA;simp only[legationref11_Right.j0]at H;by_cases c7:x15_1=true
   ·subst c7;have H1:(some false)=some r:=(by rw[if_pos rfl]at H;exact H);clear H;have H:=H1;clear H1;obtain rfl:=Option.some.inj H;go_wp2;go_ret;exact⟨by rfl,by repeat((with_reducible exact HB.out))⟩
   ·replace c7:=Bool.eq_false_iff.mpr c7;subst c7;have H1:(legationref11_Right.l0 kj1 0 l0_0 l0_1)=some r:=(by rw[if_neg (show ¬(false=true)by decide)]at H;exact H);clear H;have H:=H1;clear H1;have H':=Aside0.mk H;clear H;go_wp2;go_loopg [3] kj1 (fun kq v3 w'=> ∃ (x3_2:Int),v3= .int .i64 x3_2∧Aside0 (legationref11_Right.l0 kq x3_2 l0_0 l0_1=some r)∧Aside0 (kq≤kj1)∧Aside0 (w'.heap[gb268]? =some (.cells #[(.slice A0_0 l0_0.length c0_0),(.slice A0_1 l0_1.length c0_1)] 25 (0,0)))∧Aside0 (Below w.heap.size w w'));(case atStart=>exact⟨(0),(by rfl),H',⟨Nat.le_refl _⟩,⟨by exact BK268.out⟩,⟨by repeat((with_reducible exact HB.out))⟩⟩);case round=>
     clear H';obtain⟨x3_2,rfl,HA,HK2,BK268,HB⟩:=hrel;cases gk with
     |zero=>exact absurd HA.out (by simp[legationref11_Right.l0])
     |succ k2=>
      have H:=HA.out;clear HA;simp only[legationref11_Right.l0]at H;by_cases c8:x3_2<(l0_0.length:Int)
      ·rw[if_pos c8]at H;have c8b0:decide (x3_2<(l0_0.length:Int))=true:=decide_eq_true c8;clear c8;by_cases c9:0≤x3_2
       ·rw[if_pos c9]at H;have c9b0:decide (0≤x3_2)=true:=decide_eq_true c9;clear c9;replace H:=Option.bind_eq_some_iff.mp H;obtain⟨t270,A100,H⟩:=H;replace H:(if t270=true then(if x3_2≤(l0_0.length:Int)then((legationref03_In.f k2 (l0_0.take (x3_2:Int).toNat) (rdOf ByteArray.empty l0_0 x3_2)).bind fun t273=>(if t273=true then(some false)else(legationref11_Right.l0 k2 (wrap64 (x3_2+1)) l0_0 l0_1)))else(none))else(some false))=some r:=H;have A10:=Aside0.mk A100;clear A100;by_cases c11:t270=true
        ·subst c11;have H1:(if x3_2≤(l0_0.length:Int)then((legationref03_In.f k2 (l0_0.take (x3_2:Int).toNat) (rdOf ByteArray.empty l0_0 x3_2)).bind fun t273=>(if t273=true then(some false)else(legationref11_Right.l0 k2 (wrap64 (x3_2+1)) l0_0 l0_1)))else(none))=some r:=(by rw[if_pos rfl]at H;exact H);clear H;have H:=H1;clear H1;have c12b0:=eq_true (of_decide_eq_true (by(with_reducible assumption)):0≤x3_2);by_cases c13:x3_2≤(l0_0.length:Int)
         ·rw[if_pos c13]at H;have c13b0:=eq_true c13;have c13b1:decide (x3_2≤(l0_0.length:Int))=true:=decide_eq_true c13;clear c13;replace H:=Option.bind_eq_some_iff.mp H;obtain⟨t273,A140,H⟩:=H;replace H:(if t273=true then(some false)else(legationref11_Right.l0 k2 (wrap64 (x3_2+1)) l0_0 l0_1))=some r:=H;have A14:=Aside0.mk A140;clear A140;by_cases c15:t273=true
          ·subst c15;have H1:(some false)=some r:=(by rw[if_pos rfl]at H;exact H);clear H;have H:=H1;clear H1;obtain rfl:=Option.some.inj H;have hcz16_0:wr.cell? ⟨gb268,0,none⟩=some (.slice A0_0 l0_0.length c0_0):=(blk_cell BK268.out 0).trans rfl;(try go_wp2);have n0_:=Aside0.mk (blk_drew BK268.out);have n1_:=Aside0.mk (below_drew1 HB.out);clear BK268;clear HB;have BK268:=n0_;have HB:=n1_;clear n0_ n1_;have p269:0≤(x3_2:Int):=of_decide_eq_true (by(with_reducible assumption));have q269:x3_2<(l0_0.length:Int):=of_decide_eq_true (by(with_reducible assumption));obtain⟨ad269,e269,hx269_0⟩:=Kd.at_string HR0_0.out x3_2 p269 q269;have hw269_0:=hx269_0;cases e269
           replace hx269_0:=(HB.out.cell (World.block_lt_of_cell? w _ hx269_0)).trans hx269_0;replace p269:=eq_true p269;replace q269:=eq_true q269;have p272:0≤(x3_2:Int):=of_decide_eq_true (by(with_reducible assumption));have q272:x3_2<(l0_0.length:Int):=of_decide_eq_true (by(with_reducible assumption));obtain⟨ad272,e272,hx272_0⟩:=Kd.at_string HR0_0.out x3_2 p272 q272;have hw272_0:=hx272_0;obtain rfl:ad269=ad272:=(by injection e272);replace hx272_0:=(HB.out.cell (World.block_lt_of_cell? w _ hx272_0)).trans hx272_0;replace p272:=eq_true p272;replace q272:=eq_true q272;refine start_ (n:=19) (S:=fun w'=>w'.cell? ⟨gb268,0,none⟩=some (.slice (some ad269) l0_0.length c0_0)∧w'.cell? ⟨gb268,1,none⟩=some (.slice A0_1 l0_1.length c0_1)∧w'.cell? (ad269.add (x3_2).toNat)=some (.string (rdOf ByteArray.empty l0_0 x3_2))∧w'.cell? (ad269.add (x3_2).toNat)=some (.string (rdOf ByteArray.empty l0_0 x3_2))) (ds:= []) #[false,false,false,false,false,false,false,false,false,false,false,false,false,false,false,false,false,false,false] (by kernel_rfl) rfl rfl ⟨(blk_cell BK268.out 0).trans rfl,(blk_cell BK268.out 1).trans rfl,((HB.out.cell (World.block_lt_of_cell? w _ hw269_0)).trans hw269_0),((HB.out.cell (World.block_lt_of_cell? w _ hw272_0)).trans hw272_0)⟩ (fun hHeld=>?_);refine with_tabW legationref11_Right.tab6 legationref11_Right.bits6 (fun HT_ HW_=>?_);generalize wr.drew=w17 at BK268 HB hx269_0 hx272_0 hHeld ⊢;refine pure_ (i:=0) (N:=some 23) (v:=?_) (a':=?_) #[true,false,false,false,false,false,false,false,false,false,false,false,false,false,false,false,false,false,false] rfl rfl (any_of HT_.out (by kernel_rfl)) (fun _ _ _ h=>h) (Or.inl ⟨by rfl,?_⟩) ?_ ?_;rotate_left
           ·intro w';go_simp;with_reducible rfl
           rotate_left
           ·simp only[Act.put,List.setIfInBounds_toArray,List.set_cons_zero,List.set_cons_succ,i64_w,i32_w];rfl
           refine pure_ (i:=2) (N:=some 25) (v:=?_) (a':=?_) #[true,false,true,false,false,false,false,false,false,false,false,false,false,false,false,false,false,false,false] rfl rfl (any_of HT_.out (by kernel_rfl)) (fun _ _ _ h=>h) (Or.inl ⟨by rfl,?_⟩) ?_ ?_;rotate_left
           ·intro w';go_simp;with_reducible rfl
           rotate_left
           ·simp only[Act.put,List.setIfInBounds_toArray,List.set_cons_zero,List.set_cons_succ,i64_w,i32_w];rfl
           refine take_ (i:=1) (N:=some 24) (v:=?_) (a':=?_) #[true,true,true,false,false,false,false,false,false,false,false,false,false,false,false,false,false,false,false] rfl rfl (take_ofW HT_.out HW_.out (by kernel_rfl)) (fun _ _ _ h=>h) (Or.inl ⟨by rfl,?_⟩) hHeld ?_ ?_;rotate_left
           ·rintro w' ⟨s0,s1,s2,s3⟩;go_simp;with_reducible rfl
           rotate_left
           ·simp only[Act.put,List.setIfInBounds_toArray,List.set_cons_zero,List.set_cons_succ,i64_w,i32_w];rfl
           refine pure_ (i:=3) (N:=some 26) (v:=?_) (a':=?_) #[true,true,true,true,false,false,false,false,false,false,false,false,false,false,false,false,false,false,false] rfl rfl (any_of HT_.out (by kernel_rfl)) (fun _ _ _ h=>h) (Or.inl ⟨by rfl,?_⟩) ?_ ?_;rotate_left
           ·intro w';go_simp;with_reducible rfl
           rotate_left
           ·simp only[Act.put,List.setIfInBounds_toArray,List.set_cons_zero,List.set_cons_succ,i64_w,i32_w];rfl
           refine take_ (i:=4) (N:=some 27) (v:=?_) (a':=?_) #[true,true,true,true,true,false,false,false,false,false,false,false,false,false,false,false,false,false,false] rfl rfl (take_ofW HT_.out HW_.out (by kernel_rfl)) (fun _ _ _ h=>h) (Or.inl ⟨by rfl,?_⟩) hHeld ?_ ?_;rotate_left
           ·rintro w' ⟨s0,s1,s2,s3⟩;go_simp;with_reducible rfl
           rotate_left
           ·simp only[Act.put,List.setIfInBounds_toArray,List.set_cons_zero,List.set_cons_succ,i64_w,i32_w];rfl
           refine one_ (i:=5) (N:=some 28) #[true,true,true,true,true,true,false,false,false,false,false,false,false,false,false,false,false,false,false] rfl rfl (one_of HT_.out (by kernel_rfl)) (by decide) (fun K hK=>?_);refine goes_ Tryz.func61 (by kernel_rfl) rfl #[.string (rdOf ByteArray.empty l0_0 x3_2)] (by rfl) rfl rfl (by(try simp only[List.map_toArray,List.map_cons,List.map_nil]);rfl) ?_;(with_reducible refine(legationref01_IsName.calls k2 (rdOf ByteArray.empty l0_0 x3_2) true _ A10.out).mono ?_);rintro e w' ⟨rfl,⟨nd,rfl⟩⟩;refine⟨_,rfl,?_⟩;obtain⟨i018,hi018,_,hsz18,_⟩:=info_parts info9;obtain⟨hcut18,hA18,hC18⟩:=print_take_of (P:=Tryz.prog) Value.string (⟨#[]⟩:ByteArray) 22 9 .i64 Tryz.underlying22 hi018 hsz18 (some ad269) c0_0 l0_0 x3_2 (of_decide_eq_true (by(with_reducible assumption))) (of_decide_eq_true (by(with_reducible assumption))) HC0_0.out;have HR271:=Aside0.mk (Kd.C_of_reads (h1:=fun _=>rfl) (hA18 _ (Kd.reads_of_C HR0_0.out)));have HC271:=Aside0.mk hC18;clear hA18 hC18 hi018 hsz18;refine hK.out _ _ ⟨(blk_cell BK268.out 0).trans rfl,(blk_cell BK268.out 1).trans rfl,((HB.out.cell (World.block_lt_of_cell? w _ hw269_0)).trans hw269_0),((HB.out.cell (World.block_lt_of_cell? w _ hw272_0)).trans hw272_0)⟩ (fun hHeld=>?_);clear hK K;refine norm_ (a':=?_) ?_ ?_;rotate_left
           ·(show Act.put _ (some 28) _=_);simp only[Act.put,List.setIfInBounds_toArray,List.set_cons_zero,List.set_cons_succ,i64_w,i32_w];rfl
           refine pure_ (i:=6) (N:=some 29) (v:=?_) (a':=?_) #[true,true,true,true,true,true,true,false,false,false,false,false,false,false,false,false,false,false,false] rfl rfl (any_of HT_.out (by kernel_rfl)) (fun _ _ _ h=>h) (Or.inl ⟨by rfl,?_⟩) ?_ ?_;rotate_left
           ·intro w';go_simp;with_reducible rfl
           rotate_left
           ·simp only[Act.put,List.setIfInBounds_toArray,List.set_cons_zero,List.set_cons_succ,i64_w,i32_w];rfl
           refine pure_ (i:=7) (N:=some 30) (v:=?_) (a':=?_) #[true,true,true,true,true,true,true,true,false,false,false,false,false,false,false,false,false,false,false] rfl rfl (any_of HT_.out (by kernel_rfl)) (fun _ _ _ h=>h) (Or.inl ⟨by rfl,?_⟩) ?_ ?_;rotate_left
           ·intro w';go_simp;with_reducible rfl
           rotate_left
           ·simp only[Act.put,List.setIfInBounds_toArray,List.set_cons_zero,List.set_cons_succ,i64_w,i32_w];rfl
           refine pure_ (i:=8) (N:=some 31) (v:=?_) (a':=?_) #[true,true,true,true,true,true,true,true,true,false,false,false,false,false,false,false,false,false,false] rfl rfl (any_of HT_.out (by kernel_rfl)) (fun _ _ _ h=>h) (Or.inl ⟨by rfl,?_⟩) ?_ ?_;rotate_left
           ·intro w';go_simp;with_reducible rfl
           rotate_left
           ·simp only[Act.put,List.setIfInBounds_toArray,List.set_cons_zero,List.set_cons_succ,i64_w,i32_w];rfl
           refine pure_ (i:=10) (N:=some 33) (v:=?_) (a':=?_) #[true,true,true,true,true,true,true,true,true,false,true,false,false,false,false,false,false,false,false] rfl rfl (any_of HT_.out (by kernel_rfl)) (fun _ _ _ h=>h) (Or.inl ⟨by rfl,?_⟩) ?_ ?_;rotate_left
           ·intro w';go_simp;with_reducible rfl
           rotate_left
           ·simp only[Act.put,List.setIfInBounds_toArray,List.set_cons_zero,List.set_cons_succ,i64_w,i32_w];rfl
           refine pure_ (i:=12) (N:=some 35) (v:=?_) (a':=?_) #[true,true,true,true,true,true,true,true,true,false,true,false,true,false,false,false,false,false,false] rfl rfl (any_of HT_.out (by kernel_rfl)) (fun _ _ _ h=>h) (Or.inl ⟨by rfl,?_⟩) ?_ ?_;rotate_left
           ·intro w';go_simp;with_reducible rfl
           rotate_left
           ·simp only[Act.put,List.setIfInBounds_toArray,List.set_cons_zero,List.set_cons_succ,i64_w,i32_w];rfl
           refine pure_ (i:=14) (N:=some 37) (v:=?_) (a':=?_) #[true,true,true,true,true,true,true,true,true,false,true,false,true,false,true,false,false,false,false] rfl rfl (any_of HT_.out (by kernel_rfl)) (fun _ _ _ h=>h) (Or.inl ⟨by rfl,?_⟩) ?_ ?_;rotate_left
           ·intro w';go_simp;with_reducible rfl
           rotate_left
           ·simp only[Act.put,List.setIfInBounds_toArray,List.set_cons_zero,List.set_cons_succ,i64_w,i32_w];rfl
           refine take_ (i:=9) (N:=some 32) (v:=?_) (a':=?_) #[true,true,true,true,true,true,true,true,true,true,true,false,true,false,true,false,false,false,false] rfl rfl (take_ofW HT_.out HW_.out (by kernel_rfl)) (fun _ _ _ h=>h) (Or.inl ⟨by rfl,?_⟩) hHeld ?_ ?_;rotate_left
           ·rintro w' ⟨s0,s1,s2,s3⟩;go_simp;with_reducible rfl
           rotate_left
           ·simp only[Act.put,List.setIfInBounds_toArray,List.set_cons_zero,List.set_cons_succ,i64_w,i32_w];rfl
           refine pure_ (i:=11) (N:=some 34) (v:=?_) (a':=?_) #[true,true,true,true,true,true,true,true,true,true,true,true,true,false,true,false,false,false,false] rfl rfl (any_of HT_.out (by kernel_rfl)) (fun _ _ _ h=>h) (Or.inl ⟨by rfl,?_⟩) ?_ ?_;rotate_left
           ·intro w';go_simp;with_reducible rfl
           rotate_left
           ·simp only[Act.put,List.setIfInBounds_toArray,List.set_cons_zero,List.set_cons_succ,i64_w,i32_w];rfl
           refine take_ (i:=13) (N:=some 36) (v:=?_) (a':=?_) #[true,true,true,true,true,true,true,true,true,true,true,true,true,true,true,false,false,false,false] rfl rfl (take_ofW HT_.out HW_.out (by kernel_rfl)) (fun _ _ _ h=>h) (Or.inl ⟨by rfl,?_⟩) hHeld ?_ ?_;rotate_left
           ·rintro w' ⟨s0,s1,s2,s3⟩;go_simp;with_reducible rfl
           rotate_left
           ·simp only[Act.put,List.setIfInBounds_toArray,List.set_cons_zero,List.set_cons_succ,i64_w,i32_w];rfl
           refine pure_ (i:=15) (N:=some 38) (v:=?_) (a':=?_) #[true,true,true,true,true,true,true,true,true,true,true,true,true,true,true,true,false,false,false] rfl rfl (any_of HT_.out (by kernel_rfl)) (fun _ _ _ h=>h) (Or.inl ⟨by rfl,?_⟩) ?_ ?_;rotate_left
           ·intro w';go_simp;with_reducible rfl
           rotate_left
           ·simp only[Act.put,List.setIfInBounds_toArray,List.set_cons_zero,List.set_cons_succ,i64_w,i32_w];rfl
           refine take_ (i:=16) (N:=some 39) (v:=?_) (a':=?_) #[true,true,true,true,true,true,true,true,true,true,true,true,true,true,true,true,true,false,false] rfl rfl (take_ofW HT_.out HW_.out (by kernel_rfl)) (fun _ _ _ h=>h) (Or.inl ⟨by rfl,?_⟩) hHeld ?_ ?_;rotate_left
           ·rintro w' ⟨s0,s1,s2,s3⟩;go_simp;with_reducible rfl
           rotate_left
           ·simp only[Act.put,List.setIfInBounds_toArray,List.set_cons_zero,List.set_cons_succ,i64_w,i32_w];rfl
           refine one_ (i:=17) (N:=some 40) #[true,true,true,true,true,true,true,true,true,true,true,true,true,true,true,true,true,true,false] rfl rfl (one_of HT_.out (by kernel_rfl)) (by decide) (fun K hK=>?_);refine goes_ Tryz.func62 (by kernel_rfl) rfl #[.slice (some ad269) (l0_0.take (x3_2:Int).toNat).length c0_0,.string (rdOf ByteArray.empty l0_0 x3_2)] (by rfl) rfl rfl (by(try simp only[List.map_toArray,List.map_cons,List.map_nil]);(rw[show(l0_0.take (x3_2:Int).toNat).length=x3_2.toNat from(by rw[List.length_take];have h_:(x3_2:Int)≤(l0_0.length:Int):=of_decide_eq_true (by(with_reducible assumption));omega)]<;>rfl)) ?_;(with_reducible refine(legationref03_In.calls k2 _ _ (l0_0.take (x3_2:Int).toNat) (rdOf ByteArray.empty l0_0 x3_2) true _ ?side1 ?side2 A14.out).mono ?_);(case side1=>repeat(exact(Kd.C_below HR271.out (by repeat((with_reducible first|exact HB.out|apply pw_below_drewN))))));(case side2=>exact HC271.out);rintro e w' ⟨rfl,⟨nd,rfl⟩⟩;refine⟨_,rfl,?_⟩;refine hK.out _ _ ⟨(blk_cell BK268.out 0).trans rfl,(blk_cell BK268.out 1).trans rfl,((HB.out.cell (World.block_lt_of_cell? w _ hw269_0)).trans hw269_0),((HB.out.cell (World.block_lt_of_cell? w _ hw272_0)).trans hw272_0)⟩ (fun hHeld=>?_);clear hK K;refine norm_ (a':=?_) ?_ ?_;rotate_left
           ·(show Act.put _ (some 40) _=_);simp only[Act.put,List.setIfInBounds_toArray,List.set_cons_zero,List.set_cons_succ,i64_w,i32_w];rfl
           refine pure_ (i:=18) (N:=some 41) (v:=?_) (a':=?_) #[true,true,true,true,true,true,true,true,true,true,true,true,true,true,true,true,true,true,true] rfl rfl (any_of HT_.out (by kernel_rfl)) (fun _ _ _ h=>h) (Or.inl ⟨by rfl,?_⟩) ?_ ?_;rotate_left
           ·intro w';go_simp;with_reducible rfl
           rotate_left
           ·simp only[Act.put,List.setIfInBounds_toArray,List.set_cons_zero,List.set_cons_succ,i64_w,i32_w];rfl
           refine done_ (done_of HT_.out (by kernel_rfl)) ?_;(try go_wp2);go_ret;exact⟨by rfl,by repeat((with_reducible first|exact HB.out|apply pw_below_drewN))⟩
          ·replace c15:=Bool.eq_false_iff.mpr c15;subst c15;have H1:(legationref11_Right.l0 k2 (wrap64 (x3_2+1)) l0_0 l0_1)=some r:=(by rw[if_neg (show ¬(false=true)by decide)]at H;exact H);clear H;have H:=H1;clear H1;have H':=Aside0.mk H;clear H;have hcz19_0:wr.cell? ⟨gb268,0,none⟩=some (.slice A0_0 l0_0.length c0_0):=(blk_cell BK268.out 0).trans rfl;(try go_wp2);have n0_:=Aside0.mk (blk_drew BK268.out);have n1_:=Aside0.mk (below_drew1 HB.out);clear BK268;clear HB;have BK268:=n0_;have HB:=n1_;clear n0_ n1_;have p269:0≤(x3_2:Int):=of_decide_eq_true (by(with_reducible assumption));have q269:x3_2<(l0_0.length:Int):=of_decide_eq_true (by(with_reducible assumption));obtain⟨ad269,e269,hx269_0⟩:=Kd.at_string HR0_0.out x3_2 p269 q269;have hw269_0:=hx269_0;cases e269
           replace hx269_0:=(HB.out.cell (World.block_lt_of_cell? w _ hx269_0)).trans hx269_0;replace p269:=eq_true p269;replace q269:=eq_true q269;have p272:0≤(x3_2:Int):=of_decide_eq_true (by(with_reducible assumption));have q272:x3_2<(l0_0.length:Int):=of_decide_eq_true (by(with_reducible assumption));obtain⟨ad272,e272,hx272_0⟩:=Kd.at_string HR0_0.out x3_2 p272 q272;have hw272_0:=hx272_0;obtain rfl:ad269=ad272:=(by injection e272);replace hx272_0:=(HB.out.cell (World.block_lt_of_cell? w _ hx272_0)).trans hx272_0;replace p272:=eq_true p272;replace q272:=eq_true q272;refine start_ (n:=19) (S:=fun w'=>w'.cell? ⟨gb268,0,none⟩=some (.slice (some ad269) l0_0.length c0_0)∧w'.cell? ⟨gb268,1,none⟩=some (.slice A0_1 l0_1.length c0_1)∧w'.cell? (ad269.add (x3_2).toNat)=some (.string (rdOf ByteArray.empty l0_0 x3_2))∧w'.cell? (ad269.add (x3_2).toNat)=some (.string (rdOf ByteArray.empty l0_0 x3_2))) (ds:= []) #[false,false,false,false,false,false,false,false,false,false,false,false,false,false,false,false,false,false,false] (by kernel_rfl) rfl rfl ⟨(blk_cell BK268.out 0).trans rfl,(blk_cell BK268.out 1).trans rfl,((HB.out.cell (World.block_lt_of_cell? w _ hw269_0)).trans hw269_0),((HB.out.cell (World.block_lt_of_cell? w _ hw272_0)).trans hw272_0)⟩ (fun hHeld=>?_);refine with_tabW legationref11_Right.tab6 legationref11_Right.bits6 (fun HT_ HW_=>?_);generalize wr.drew=w20 at BK268 HB hx269_0 hx272_0 hHeld ⊢;refine pure_ (i:=0) (N:=some 23) (v:=?_) (a':=?_) #[true,false,false,false,false,false,false,false,false,false,false,false,false,false,false,false,false,false,false] rfl rfl (any_of HT_.out (by kernel_rfl)) (fun _ _ _ h=>h) (Or.inl ⟨by rfl,?_⟩) ?_ ?_;rotate_left
           ·intro w';go_simp;with_reducible rfl
           rotate_left
           ·simp only[Act.put,List.setIfInBounds_toArray,List.set_cons_zero,List.set_cons_succ,i64_w,i32_w];rfl
           refine pure_ (i:=2) (N:=some 25) (v:=?_) (a':=?_) #[true,false,true,false,false,false,false,false,false,false,false,false,false,false,false,false,false,false,false] rfl rfl (any_of HT_.out (by kernel_rfl)) (fun _ _ _ h=>h) (Or.inl ⟨by rfl,?_⟩) ?_ ?_;rotate_left
           ·intro w';go_simp;with_reducible rfl
           rotate_left
           ·simp only[Act.put,List.setIfInBounds_toArray,List.set_cons_zero,List.set_cons_succ,i64_w,i32_w];rfl
           refine take_ (i:=1) (N:=some 24) (v:=?_) (a':=?_) #[true,true,true,false,false,false,false,false,false,false,false,false,false,false,false,false,false,false,false] rfl rfl (take_ofW HT_.out HW_.out (by kernel_rfl)) (fun _ _ _ h=>h) (Or.inl ⟨by rfl,?_⟩) hHeld ?_ ?_;rotate_left
           ·rintro w' ⟨s0,s1,s2,s3⟩;go_simp;with_reducible rfl
           rotate_left
           ·simp only[Act.put,List.setIfInBounds_toArray,List.set_cons_zero,List.set_cons_succ,i64_w,i32_w];rfl
           refine pure_ (i:=3) (N:=some 26) (v:=?_) (a':=?_) #[true,true,true,true,false,false,false,false,false,false,false,false,false,false,false,false,false,false,false] rfl rfl (any_of HT_.out (by kernel_rfl)) (fun _ _ _ h=>h) (Or.inl ⟨by rfl,?_⟩) ?_ ?_;rotate_left
           ·intro w';go_simp;with_reducible rfl
           rotate_left
           ·simp only[Act.put,List.setIfInBounds_toArray,List.set_cons_zero,List.set_cons_succ,i64_w,i32_w];rfl
           refine take_ (i:=4) (N:=some 27) (v:=?_) (a':=?_) #[true,true,true,true,true,false,false,false,false,false,false,false,false,false,false,false,false,false,false] rfl rfl (take_ofW HT_.out HW_.out (by kernel_rfl)) (fun _ _ _ h=>h) (Or.inl ⟨by rfl,?_⟩) hHeld ?_ ?_;rotate_left
           ·rintro w' ⟨s0,s1,s2,s3⟩;go_simp;with_reducible rfl
           rotate_left
           ·simp only[Act.put,List.setIfInBounds_toArray,List.set_cons_zero,List.set_cons_succ,i64_w,i32_w];rfl
           refine one_ (i:=5) (N:=some 28) #[true,true,true,true,true,true,false,false,false,false,false,false,false,false,false,false,false,false,false] rfl rfl (one_of HT_.out (by kernel_rfl)) (by decide) (fun K hK=>?_);refine goes_ Tryz.func61 (by kernel_rfl) rfl #[.string (rdOf ByteArray.empty l0_0 x3_2)] (by rfl) rfl rfl (by(try simp only[List.map_toArray,List.map_cons,List.map_nil]);rfl) ?_;(with_reducible refine(legationref01_IsName.calls k2 (rdOf ByteArray.empty l0_0 x3_2) true _ A10.out).mono ?_);rintro e w' ⟨rfl,⟨nd,rfl⟩⟩;refine⟨_,rfl,?_⟩;obtain⟨i021,hi021,_,hsz21,_⟩:=info_parts info9;obtain⟨hcut21,hA21,hC21⟩:=print_take_of (P:=Tryz.prog) Value.string (⟨#[]⟩:ByteArray) 22 9 .i64 Tryz.underlying22 hi021 hsz21 (some ad269) c0_0 l0_0 x3_2 (of_decide_eq_true (by(with_reducible assumption))) (of_decide_eq_true (by(with_reducible assumption))) HC0_0.out;have HR271:=Aside0.mk (Kd.C_of_reads (h1:=fun _=>rfl) (hA21 _ (Kd.reads_of_C HR0_0.out)));have HC271:=Aside0.mk hC21;clear hA21 hC21 hi021 hsz21;refine hK.out _ _ ⟨(blk_cell BK268.out 0).trans rfl,(blk_cell BK268.out 1).trans rfl,((HB.out.cell (World.block_lt_of_cell? w _ hw269_0)).trans hw269_0),((HB.out.cell (World.block_lt_of_cell? w _ hw272_0)).trans hw272_0)⟩ (fun hHeld=>?_);clear hK K;refine norm_ (a':=?_) ?_ ?_;rotate_left
           ·(show Act.put _ (some 28) _=_);simp only[Act.put,List.setIfInBounds_toArray,List.set_cons_zero,List.set_cons_succ,i64_w,i32_w];rfl
           refine pure_ (i:=6) (N:=some 29) (v:=?_) (a':=?_) #[true,true,true,true,true,true,true,false,false,false,false,false,false,false,false,false,false,false,false] rfl rfl (any_of HT_.out (by kernel_rfl)) (fun _ _ _ h=>h) (Or.inl ⟨by rfl,?_⟩) ?_ ?_;rotate_left
           ·intro w';go_simp;with_reducible rfl
           rotate_left
           ·simp only[Act.put,List.setIfInBounds_toArray,List.set_cons_zero,List.set_cons_succ,i64_w,i32_w];rfl
           refine pure_ (i:=7) (N:=some 30) (v:=?_) (a':=?_) #[true,true,true,true,true,true,true,true,false,false,false,false,false,false,false,false,false,false,false] rfl rfl (any_of HT_.out (by kernel_rfl)) (fun _ _ _ h=>h) (Or.inl ⟨by rfl,?_⟩) ?_ ?_;rotate_left
           ·intro w';go_simp;with_reducible rfl
           rotate_left
           ·simp only[Act.put,List.setIfInBounds_toArray,List.set_cons_zero,List.set_cons_succ,i64_w,i32_w];rfl
           refine pure_ (i:=8) (N:=some 31) (v:=?_) (a':=?_) #[true,true,true,true,true,true,true,true,true,false,false,false,false,false,false,false,false,false,false] rfl rfl (any_of HT_.out (by kernel_rfl)) (fun _ _ _ h=>h) (Or.inl ⟨by rfl,?_⟩) ?_ ?_;rotate_left
           ·intro w';go_simp;with_reducible rfl
           rotate_left
           ·simp only[Act.put,List.setIfInBounds_toArray,List.set_cons_zero,List.set_cons_succ,i64_w,i32_w];rfl
           refine pure_ (i:=10) (N:=some 33) (v:=?_) (a':=?_) #[true,true,true,true,true,true,true,true,true,false,true,false,false,false,false,false,false,false,false] rfl rfl (any_of HT_.out (by kernel_rfl)) (fun _ _ _ h=>h) (Or.inl ⟨by rfl,?_⟩) ?_ ?_;rotate_left
           ·intro w';go_simp;with_reducible rfl
           rotate_left
           ·simp only[Act.put,List.setIfInBounds_toArray,List.set_cons_zero,List.set_cons_succ,i64_w,i32_w];rfl
           refine pure_ (i:=12) (N:=some 35) (v:=?_) (a':=?_) #[true,true,true,true,true,true,true,true,true,false,true,false,true,false,false,false,false,false,false] rfl rfl (any_of HT_.out (by kernel_rfl)) (fun _ _ _ h=>h) (Or.inl ⟨by rfl,?_⟩) ?_ ?_;rotate_left
           ·intro w';go_simp;with_reducible rfl
           rotate_left
           ·simp only[Act.put,List.setIfInBounds_toArray,List.set_cons_zero,List.set_cons_succ,i64_w,i32_w];rfl
           refine pure_ (i:=14) (N:=some 37) (v:=?_) (a':=?_) #[true,true,true,true,true,true,true,true,true,false,true,false,true,false,true,false,false,false,false] rfl rfl (any_of HT_.out (by kernel_rfl)) (fun _ _ _ h=>h) (Or.inl ⟨by rfl,?_⟩) ?_ ?_;rotate_left
           ·intro w';go_simp;with_reducible rfl
           rotate_left
           ·simp only[Act.put,List.setIfInBounds_toArray,List.set_cons_zero,List.set_cons_succ,i64_w,i32_w];rfl
           refine take_ (i:=9) (N:=some 32) (v:=?_) (a':=?_) #[true,true,true,true,true,true,true,true,true,true,true,false,true,false,true,false,false,false,false] rfl rfl (take_ofW HT_.out HW_.out (by kernel_rfl)) (fun _ _ _ h=>h) (Or.inl ⟨by rfl,?_⟩) hHeld ?_ ?_;rotate_left
           ·rintro w' ⟨s0,s1,s2,s3⟩;go_simp;with_reducible rfl
           rotate_left
           ·simp only[Act.put,List.setIfInBounds_toArray,List.set_cons_zero,List.set_cons_succ,i64_w,i32_w];rfl
           refine pure_ (i:=11) (N:=some 34) (v:=?_) (a':=?_) #[true,true,true,true,true,true,true,true,true,true,true,true,true,false,true,false,false,false,false] rfl rfl (any_of HT_.out (by kernel_rfl)) (fun _ _ _ h=>h) (Or.inl ⟨by rfl,?_⟩) ?_ ?_;rotate_left
           ·intro w';go_simp;with_reducible rfl
           rotate_left
           ·simp only[Act.put,List.setIfInBounds_toArray,List.set_cons_zero,List.set_cons_succ,i64_w,i32_w];rfl
           refine take_ (i:=13) (N:=some 36) (v:=?_) (a':=?_) #[true,true,true,true,true,true,true,true,true,true,true,true,true,true,true,false,false,false,false] rfl rfl (take_ofW HT_.out HW_.out (by kernel_rfl)) (fun _ _ _ h=>h) (Or.inl ⟨by rfl,?_⟩) hHeld ?_ ?_;rotate_left
           ·rintro w' ⟨s0,s1,s2,s3⟩;go_simp;with_reducible rfl
           rotate_left
           ·simp only[Act.put,List.setIfInBounds_toArray,List.set_cons_zero,List.set_cons_succ,i64_w,i32_w];rfl
           refine pure_ (i:=15) (N:=some 38) (v:=?_) (a':=?_) #[true,true,true,true,true,true,true,true,true,true,true,true,true,true,true,true,false,false,false] rfl rfl (any_of HT_.out (by kernel_rfl)) (fun _ _ _ h=>h) (Or.inl ⟨by rfl,?_⟩) ?_ ?_;rotate_left
           ·intro w';go_simp;with_reducible rfl
           rotate_left
           ·simp only[Act.put,List.setIfInBounds_toArray,List.set_cons_zero,List.set_cons_succ,i64_w,i32_w];rfl
           refine take_ (i:=16) (N:=some 39) (v:=?_) (a':=?_) #[true,true,true,true,true,true,true,true,true,true,true,true,true,true,true,true,true,false,false] rfl rfl (take_ofW HT_.out HW_.out (by kernel_rfl)) (fun _ _ _ h=>h) (Or.inl ⟨by rfl,?_⟩) hHeld ?_ ?_;rotate_left
           ·rintro w' ⟨s0,s1,s2,s3⟩;go_simp;with_reducible rfl
           rotate_left
           ·simp only[Act.put,List.setIfInBounds_toArray,List.set_cons_zero,List.set_cons_succ,i64_w,i32_w];rfl
           refine one_ (i:=17) (N:=some 40) #[true,true,true,true,true,true,true,true,true,true,true,true,true,true,true,true,true,true,false] rfl rfl (one_of HT_.out (by kernel_rfl)) (by decide) (fun K hK=>?_);refine goes_ Tryz.func62 (by kernel_rfl) rfl #[.slice (some ad269) (l0_0.take (x3_2:Int).toNat).length c0_0,.string (rdOf ByteArray.empty l0_0 x3_2)] (by rfl) rfl rfl (by(try simp only[List.map_toArray,List.map_cons,List.map_nil]);(rw[show(l0_0.take (x3_2:Int).toNat).length=x3_2.toNat from(by rw[List.length_take];have h_:(x3_2:Int)≤(l0_0.length:Int):=of_decide_eq_true (by(with_reducible assumption));omega)]<;>rfl)) ?_;(with_reducible refine(legationref03_In.calls k2 _ _ (l0_0.take (x3_2:Int).toNat) (rdOf ByteArray.empty l0_0 x3_2) false _ ?side1 ?side2 A14.out).mono ?_);(case side1=>repeat(exact(Kd.C_below HR271.out (by repeat((with_reducible first|exact HB.out|apply pw_below_drewN))))));(case side2=>exact HC271.out);rintro e w' ⟨rfl,⟨nd,rfl⟩⟩;refine⟨_,rfl,?_⟩;refine hK.out _ _ ⟨(blk_cell BK268.out 0).trans rfl,(blk_cell BK268.out 1).trans rfl,((HB.out.cell (World.block_lt_of_cell? w _ hw269_0)).trans hw269_0),((HB.out.cell (World.block_lt_of_cell? w _ hw272_0)).trans hw272_0)⟩ (fun hHeld=>?_);clear hK K;refine norm_ (a':=?_) ?_ ?_;rotate_left
           ·(show Act.put _ (some 40) _=_);simp only[Act.put,List.setIfInBounds_toArray,List.set_cons_zero,List.set_cons_succ,i64_w,i32_w];rfl
           refine pure_ (i:=18) (N:=some 41) (v:=?_) (a':=?_) #[true,true,true,true,true,true,true,true,true,true,true,true,true,true,true,true,true,true,true] rfl rfl (any_of HT_.out (by kernel_rfl)) (fun _ _ _ h=>h) (Or.inl ⟨by rfl,?_⟩) ?_ ?_;rotate_left
           ·intro w';go_simp;with_reducible rfl
           rotate_left
           ·simp only[Act.put,List.setIfInBounds_toArray,List.set_cons_zero,List.set_cons_succ,i64_w,i32_w];rfl
           refine done_ (done_of HT_.out (by kernel_rfl)) ?_;(try go_wp2);go_roundg k2;(case measure=>have:=HJ1.out;have:=HK2.out;omega);case rel=>exact⟨(wrap64 (x3_2+1)),(by rfl),H',⟨by have:=HJ1.out;have:=HK2.out;omega⟩,⟨by(with_reducible repeat(refine blk_drewN ?_ _));exact BK268.out⟩,⟨by repeat((with_reducible first|exact HB.out|apply pw_below_drewN))⟩⟩
         ·rw[if_neg c13]at H;exact absurd H (by simp)
        ·replace c11:=Bool.eq_false_iff.mpr c11;subst c11;have H1:(some false)=some r:=(by rw[if_neg (show ¬(false=true)by decide)]at H;exact H);clear H;have H:=H1;clear H1;obtain rfl:=Option.some.inj H;have hcz22_0:wr.cell? ⟨gb268,0,none⟩=some (.slice A0_0 l0_0.length c0_0):=(blk_cell BK268.out 0).trans rfl;(try go_wp2);have n0_:=Aside0.mk (blk_drew BK268.out);have n1_:=Aside0.mk (below_drew1 HB.out);clear BK268;clear HB;have BK268:=n0_;have HB:=n1_;clear n0_ n1_;have p269:0≤(x3_2:Int):=of_decide_eq_true (by(with_reducible assumption));have q269:x3_2<(l0_0.length:Int):=of_decide_eq_true (by(with_reducible assumption));obtain⟨ad269,e269,hx269_0⟩:=Kd.at_string HR0_0.out x3_2 p269 q269;have hw269_0:=hx269_0;cases e269
         replace hx269_0:=(HB.out.cell (World.block_lt_of_cell? w _ hx269_0)).trans hx269_0;replace p269:=eq_true p269;replace q269:=eq_true q269;refine start_ (n:=19) (S:=fun w'=>w'.cell? ⟨gb268,0,none⟩=some (.slice (some ad269) l0_0.length c0_0)∧w'.cell? ⟨gb268,1,none⟩=some (.slice A0_1 l0_1.length c0_1)∧w'.cell? (ad269.add (x3_2).toNat)=some (.string (rdOf ByteArray.empty l0_0 x3_2))) (ds:= []) #[false,false,false,false,false,false,false,false,false,false,false,false,false,false,false,false,false,false,false] (by kernel_rfl) rfl rfl ⟨(blk_cell BK268.out 0).trans rfl,(blk_cell BK268.out 1).trans rfl,((HB.out.cell (World.block_lt_of_cell? w _ hw269_0)).trans hw269_0)⟩ (fun hHeld=>?_);refine with_tabW legationref11_Right.tab6 legationref11_Right.bits6 (fun HT_ HW_=>?_);generalize wr.drew=w23 at BK268 HB hx269_0 hHeld ⊢;refine pure_ (i:=0) (N:=some 23) (v:=?_) (a':=?_) #[true,false,false,false,false,false,false,false,false,false,false,false,false,false,false,false,false,false,false] rfl rfl (any_of HT_.out (by kernel_rfl)) (fun _ _ _ h=>h) (Or.inl ⟨by rfl,?_⟩) ?_ ?_;rotate_left
         ·intro w';go_simp;with_reducible rfl
         rotate_left
         ·simp only[Act.put,List.setIfInBounds_toArray,List.set_cons_zero,List.set_cons_succ,i64_w,i32_w];rfl
         refine pure_ (i:=2) (N:=some 25) (v:=?_) (a':=?_) #[true,false,true,false,false,false,false,false,false,false,false,false,false,false,false,false,false,false,false] rfl rfl (any_of HT_.out (by kernel_rfl)) (fun _ _ _ h=>h) (Or.inl ⟨by rfl,?_⟩) ?_ ?_;rotate_left
         ·intro w';go_simp;with_reducible rfl
         rotate_left
         ·simp only[Act.put,List.setIfInBounds_toArray,List.set_cons_zero,List.set_cons_succ,i64_w,i32_w];rfl
         refine take_ (i:=1) (N:=some 24) (v:=?_) (a':=?_) #[true,true,true,false,false,false,false,false,false,false,false,false,false,false,false,false,false,false,false] rfl rfl (take_ofW HT_.out HW_.out (by kernel_rfl)) (fun _ _ _ h=>h) (Or.inl ⟨by rfl,?_⟩) hHeld ?_ ?_;rotate_left
         ·rintro w' ⟨s0,s1,s2⟩;go_simp;with_reducible rfl
         rotate_left
         ·simp only[Act.put,List.setIfInBounds_toArray,List.set_cons_zero,List.set_cons_succ,i64_w,i32_w];rfl
         refine pure_ (i:=3) (N:=some 26) (v:=?_) (a':=?_) #[true,true,true,true,false,false,false,false,false,false,false,false,false,false,false,false,false,false,false] rfl rfl (any_of HT_.out (by kernel_rfl)) (fun _ _ _ h=>h) (Or.inl ⟨by rfl,?_⟩) ?_ ?_;rotate_left
         ·intro w';go_simp;with_reducible rfl
         rotate_left
         ·simp only[Act.put,List.setIfInBounds_toArray,List.set_cons_zero,List.set_cons_succ,i64_w,i32_w];rfl
         refine take_ (i:=4) (N:=some 27) (v:=?_) (a':=?_) #[true,true,true,true,true,false,false,false,false,false,false,false,false,false,false,false,false,false,false] rfl rfl (take_ofW HT_.out HW_.out (by kernel_rfl)) (fun _ _ _ h=>h) (Or.inl ⟨by rfl,?_⟩) hHeld ?_ ?_;rotate_left
         ·rintro w' ⟨s0,s1,s2⟩;go_simp;with_reducible rfl
         rotate_left
         ·simp only[Act.put,List.setIfInBounds_toArray,List.set_cons_zero,List.set_cons_succ,i64_w,i32_w];rfl
         refine one_ (i:=5) (N:=some 28) #[true,true,true,true,true,true,false,false,false,false,false,false,false,false,false,false,false,false,false] rfl rfl (one_of HT_.out (by kernel_rfl)) (by decide) (fun K hK=>?_);refine goes_ Tryz.func61 (by kernel_rfl) rfl #[.string (rdOf ByteArray.empty l0_0 x3_2)] (by rfl) rfl rfl (by(try simp only[List.map_toArray,List.map_cons,List.map_nil]);rfl) ?_;(with_reducible refine(legationref01_IsName.calls k2 (rdOf ByteArray.empty l0_0 x3_2) false _ A10.out).mono ?_);rintro e w' ⟨rfl,⟨nd,rfl⟩⟩;refine⟨_,rfl,?_⟩;refine hK.out _ _ ⟨(blk_cell BK268.out 0).trans rfl,(blk_cell BK268.out 1).trans rfl,((HB.out.cell (World.block_lt_of_cell? w _ hw269_0)).trans hw269_0)⟩ (fun hHeld=>?_);clear hK K;refine norm_ (a':=?_) ?_ ?_;rotate_left
         ·(show Act.put _ (some 28) _=_);simp only[Act.put,List.setIfInBounds_toArray,List.set_cons_zero,List.set_cons_succ,i64_w,i32_w];rfl
         refine pure_ (i:=6) (N:=some 29) (v:=?_) (a':=?_) #[true,true,true,true,true,true,true,false,false,false,false,false,false,false,false,false,false,false,false] rfl rfl (any_of HT_.out (by kernel_rfl)) (fun _ _ _ h=>h) (Or.inl ⟨by rfl,?_⟩) ?_ ?_;rotate_left
         ·intro w';go_simp;with_reducible rfl
         rotate_left
         ·simp only[Act.put,List.setIfInBounds_toArray,List.set_cons_zero,List.set_cons_succ,i64_w,i32_w];rfl
         refine pure_ (i:=7) (N:=some 30) (v:=?_) (a':=?_) #[true,true,true,true,true,true,true,true,false,false,false,false,false,false,false,false,false,false,false] rfl rfl (any_of HT_.out (by kernel_rfl)) (fun _ _ _ h=>h) (Or.inl ⟨by rfl,?_⟩) ?_ ?_;rotate_left
         ·intro w';go_simp;with_reducible rfl
         rotate_left
         ·simp only[Act.put,List.setIfInBounds_toArray,List.set_cons_zero,List.set_cons_succ,i64_w,i32_w];rfl
         refine pure_ (i:=8) (N:=some 31) (v:=undef) (a':=?_) #[true,true,true,true,true,true,true,true,true,false,false,false,false,false,false,false,false,false,false] rfl rfl (any_of HT_.out (by kernel_rfl)) (fun _ _ _ h=>h) (Or.inr ⟨by rfl,rfl⟩) ?_ ?_;rotate_left
         ·simp only[Act.put,List.setIfInBounds_toArray,List.set_cons_zero,List.set_cons_succ,i64_w,i32_w];rfl
         refine pure_ (i:=9) (N:=some 32) (v:=undef) (a':=?_) #[true,true,true,true,true,true,true,true,true,true,false,false,false,false,false,false,false,false,false] rfl rfl (any_of HT_.out (by kernel_rfl)) (fun _ _ _ h=>h) (Or.inr ⟨by rfl,rfl⟩) ?_ ?_;rotate_left
         ·simp only[Act.put,List.setIfInBounds_toArray,List.set_cons_zero,List.set_cons_succ,i64_w,i32_w];rfl
         refine pure_ (i:=10) (N:=some 33) (v:=undef) (a':=?_) #[true,true,true,true,true,true,true,true,true,true,true,false,false,false,false,false,false,false,false] rfl rfl (any_of HT_.out (by kernel_rfl)) (fun _ _ _ h=>h) (Or.inr ⟨by rfl,rfl⟩) ?_ ?_;rotate_left
         ·simp only[Act.put,List.setIfInBounds_toArray,List.set_cons_zero,List.set_cons_succ,i64_w,i32_w];rfl
         refine pure_ (i:=11) (N:=some 34) (v:=undef) (a':=?_) #[true,true,true,true,true,true,true,true,true,true,true,true,false,false,false,false,false,false,false] rfl rfl (any_of HT_.out (by kernel_rfl)) (fun _ _ _ h=>h) (Or.inr ⟨by rfl,rfl⟩) ?_ ?_;rotate_left
         ·simp only[Act.put,List.setIfInBounds_toArray,List.set_cons_zero,List.set_cons_succ,i64_w,i32_w];rfl
         refine pure_ (i:=12) (N:=some 35) (v:=undef) (a':=?_) #[true,true,true,true,true,true,true,true,true,true,true,true,true,false,false,false,false,false,false] rfl rfl (any_of HT_.out (by kernel_rfl)) (fun _ _ _ h=>h) (Or.inr ⟨by rfl,rfl⟩) ?_ ?_;rotate_left
         ·simp only[Act.put,List.setIfInBounds_toArray,List.set_cons_zero,List.set_cons_succ,i64_w,i32_w];rfl
         refine pure_ (i:=13) (N:=some 36) (v:=undef) (a':=?_) #[true,true,true,true,true,true,true,true,true,true,true,true,true,true,false,false,false,false,false] rfl rfl (any_of HT_.out (by kernel_rfl)) (fun _ _ _ h=>h) (Or.inr ⟨by rfl,rfl⟩) ?_ ?_;rotate_left
         ·simp only[Act.put,List.setIfInBounds_toArray,List.set_cons_zero,List.set_cons_succ,i64_w,i32_w];rfl
         refine pure_ (i:=14) (N:=some 37) (v:=undef) (a':=?_) #[true,true,true,true,true,true,true,true,true,true,true,true,true,true,true,false,false,false,false] rfl rfl (any_of HT_.out (by kernel_rfl)) (fun _ _ _ h=>h) (Or.inr ⟨by rfl,rfl⟩) ?_ ?_;rotate_left
         ·simp only[Act.put,List.setIfInBounds_toArray,List.set_cons_zero,List.set_cons_succ,i64_w,i32_w];rfl
         refine pure_ (i:=15) (N:=some 38) (v:=undef) (a':=?_) #[true,true,true,true,true,true,true,true,true,true,true,true,true,true,true,true,false,false,false] rfl rfl (any_of HT_.out (by kernel_rfl)) (fun _ _ _ h=>h) (Or.inr ⟨by rfl,rfl⟩) ?_ ?_;rotate_left
         ·simp only[Act.put,List.setIfInBounds_toArray,List.set_cons_zero,List.set_cons_succ,i64_w,i32_w];rfl
         refine pure_ (i:=16) (N:=some 39) (v:=undef) (a':=?_) #[true,true,true,true,true,true,true,true,true,true,true,true,true,true,true,true,true,false,false] rfl rfl (any_of HT_.out (by kernel_rfl)) (fun _ _ _ h=>h) (Or.inr ⟨by rfl,rfl⟩) ?_ ?_;rotate_left
         ·simp only[Act.put,List.setIfInBounds_toArray,List.set_cons_zero,List.set_cons_succ,i64_w,i32_w];rfl
         refine pure_ (i:=17) (N:=some 40) (v:=undef) (a':=?_) #[true,true,true,true,true,true,true,true,true,true,true,true,true,true,true,true,true,true,false] rfl rfl (any_of HT_.out (by kernel_rfl)) (fun _ _ _ h=>h) (Or.inr ⟨by rfl,rfl⟩) ?_ ?_;rotate_left
         ·simp only[Act.put,List.setIfInBounds_toArray,List.set_cons_zero,List.set_cons_succ,i64_w,i32_w];rfl
         refine pure_ (i:=18) (N:=some 41) (v:=?_) (a':=?_) #[true,true,true,true,true,true,true,true,true,true,true,true,true,true,true,true,true,true,true] rfl rfl (any_of HT_.out (by kernel_rfl)) (fun _ _ _ h=>h) (Or.inl ⟨by rfl,?_⟩) ?_ ?_;rotate_left
         ·intro w';go_simp;with_reducible rfl
         rotate_left
         ·simp only[Act.put,List.setIfInBounds_toArray,List.set_cons_zero,List.set_cons_succ,i64_w,i32_w];rfl
         refine done_ (done_of HT_.out (by kernel_rfl)) ?_;(try go_wp2);go_ret;exact⟨by rfl,by repeat((with_reducible first|exact HB.out|apply pw_below_drewN))⟩
       ·rw[if_neg c9]at H;exact absurd H (by simp)
      ·rw[if_neg c8]at H;have c8b0:decide (x3_2<(l0_0.length:Int))=false:=decide_eq_false c8;clear c8;have H':=Aside0.mk H;clear H;have hcz24_0:wr.cell? ⟨gb268,0,none⟩=some (.slice A0_0 l0_0.length c0_0):=(blk_cell BK268.out 0).trans rfl;go_wp2;go_loopg [4] k2 (fun kq v4 w'=> ∃ (x4_3:Int),v4= .int .i64 x4_3∧Aside0 (legationref11_Right.l1 kq x4_3 l0_0 l0_1=some r)∧Aside0 (kq≤k2)∧Aside0 (w'.heap[gb268]? =some (.cells #[(.slice A0_0 l0_0.length c0_0),(.slice A0_1 l0_1.length c0_1)] 25 (0,0)))∧Aside0 (Below w.heap.size w w'));(case atStart=>exact⟨(0),(by rfl),H',⟨Nat.le_refl _⟩,⟨by exact BK268.out⟩,⟨by repeat((with_reducible exact HB.out))⟩⟩);case round=>
        clear H';(try clear c8b0);(try clear hcz24_0);obtain⟨x4_3,rfl,HA,HK3,BK268,HB⟩:=hrel;cases gk with
        |zero=>exact absurd HA.out (by simp[legationref11_Right.l1])
        |succ k3=>
         have H:=HA.out;clear HA;simp only[legationref11_Right.l1]at H;by_cases c25:x4_3<(l0_1.length:Int)
         ·rw[if_pos c25]at H;have c25b0:decide (x4_3<(l0_1.length:Int))=true:=decide_eq_true c25;clear c25;by_cases c26:0≤x4_3
          ·rw[if_pos c26]at H;have c26b0:decide (0≤x4_3)=true:=decide_eq_true c26;clear c26;by_cases c27:((rd_L3 l0_1 x4_3).length:Int)=(l0_0.length:Int)
           ·rw[if_pos c27]at H;have c27b1:(((rd_L3 l0_1 x4_3).length:Int) !=(l0_0.length:Int))=false:=bne_eq_false_iff_eq.mpr c27;clear c27;have H':=Aside0.mk H;clear H;have hcz28_1:wr.cell? ⟨gb268,1,none⟩=some (.slice A0_1 l0_1.length c0_1):=(blk_cell BK268.out 1).trans rfl;(try go_wp2);have n0_:=Aside0.mk (blk_drew BK268.out);have n1_:=Aside0.mk (below_drew1 HB.out);clear BK268;clear HB;have BK268:=n0_;have HB:=n1_;clear n0_ n1_;have p274:0≤(x4_3:Int):=of_decide_eq_true (by(with_reducible assumption));have q274:x4_3<(l0_1.length:Int):=of_decide_eq_true (by(with_reducible assumption));obtain⟨ad274,A274_0,c274_0,e274,hx274_0,hl274_0,hi274_0⟩:=at_L3 HR0_1.out x4_3 p274 q274;have hw274_0:=hx274_0;cases e274
            replace hx274_0:=(HB.out.cell (World.block_lt_of_cell? w _ hx274_0)).trans hx274_0;have HR274_0:=Aside0.mk hi274_0;have HC274_0:=Aside0.mk hl274_0;clear hi274_0 hl274_0;replace p274:=eq_true p274;replace q274:=eq_true q274;refine start_ (n:=10) (S:=fun w'=>w'.cell? ⟨gb268,0,none⟩=some (.slice A0_0 l0_0.length c0_0)∧w'.cell? ⟨gb268,1,none⟩=some (.slice (some ad274) l0_1.length c0_1)∧w'.cell? (ad274.add (x4_3).toNat)=some (.slice A274_0 (rd_L3 l0_1 x4_3).length c274_0)) (ds:= []) #[false,false,false,false,false,false,false,false,false,false] (by kernel_rfl) rfl rfl ⟨(blk_cell BK268.out 0).trans rfl,(blk_cell BK268.out 1).trans rfl,((HB.out.cell (World.block_lt_of_cell? w _ hw274_0)).trans hw274_0)⟩ (fun hHeld=>?_);refine with_tabW legationref11_Right.tab11 legationref11_Right.bits11 (fun HT_ HW_=>?_);generalize wr.drew=w29 at BK268 HB HR274_0 hx274_0 hHeld ⊢;refine pure_ (i:=0) (N:=some 49) (v:=?_) (a':=?_) #[true,false,false,false,false,false,false,false,false,false] rfl rfl (any_of HT_.out (by kernel_rfl)) (fun _ _ _ h=>h) (Or.inl ⟨by rfl,?_⟩) ?_ ?_;rotate_left
            ·intro w';go_simp;with_reducible rfl
            rotate_left
            ·simp only[Act.put,List.setIfInBounds_toArray,List.set_cons_zero,List.set_cons_succ,i64_w,i32_w];rfl
            refine pure_ (i:=2) (N:=some 51) (v:=?_) (a':=?_) #[true,false,true,false,false,false,false,false,false,false] rfl rfl (any_of HT_.out (by kernel_rfl)) (fun _ _ _ h=>h) (Or.inl ⟨by rfl,?_⟩) ?_ ?_;rotate_left
            ·intro w';go_simp;with_reducible rfl
            rotate_left
            ·simp only[Act.put,List.setIfInBounds_toArray,List.set_cons_zero,List.set_cons_succ,i64_w,i32_w];rfl
            refine pure_ (i:=6) (N:=some 55) (v:=?_) (a':=?_) #[true,false,true,false,false,false,true,false,false,false] rfl rfl (any_of HT_.out (by kernel_rfl)) (fun _ _ _ h=>h) (Or.inl ⟨by rfl,?_⟩) ?_ ?_;rotate_left
            ·intro w';go_simp;with_reducible rfl
            rotate_left
            ·simp only[Act.put,List.setIfInBounds_toArray,List.set_cons_zero,List.set_cons_succ,i64_w,i32_w];rfl
            refine take_ (i:=1) (N:=some 50) (v:=?_) (a':=?_) #[true,true,true,false,false,false,true,false,false,false] rfl rfl (take_ofW HT_.out HW_.out (by kernel_rfl)) (fun _ _ _ h=>h) (Or.inl ⟨by rfl,?_⟩) hHeld ?_ ?_;rotate_left
            ·rintro w' ⟨s0,s1,s2⟩;go_simp;with_reducible rfl
            rotate_left
            ·simp only[Act.put,List.setIfInBounds_toArray,List.set_cons_zero,List.set_cons_succ,i64_w,i32_w];rfl
            refine pure_ (i:=3) (N:=some 52) (v:=?_) (a':=?_) #[true,true,true,true,false,false,true,false,false,false] rfl rfl (any_of HT_.out (by kernel_rfl)) (fun _ _ _ h=>h) (Or.inl ⟨by rfl,?_⟩) ?_ ?_;rotate_left
            ·intro w';go_simp;with_reducible rfl
            rotate_left
            ·simp only[Act.put,List.setIfInBounds_toArray,List.set_cons_zero,List.set_cons_succ,i64_w,i32_w];rfl
            refine take_ (i:=4) (N:=some 53) (v:=?_) (a':=?_) #[true,true,true,true,true,false,true,false,false,false] rfl rfl (take_ofW HT_.out HW_.out (by kernel_rfl)) (fun _ _ _ h=>h) (Or.inl ⟨by rfl,?_⟩) hHeld ?_ ?_;rotate_left
            ·rintro w' ⟨s0,s1,s2⟩;go_simp;with_reducible rfl
            rotate_left
            ·simp only[Act.put,List.setIfInBounds_toArray,List.set_cons_zero,List.set_cons_succ,i64_w,i32_w];rfl
            refine pure_ (i:=5) (N:=some 54) (v:=?_) (a':=?_) #[true,true,true,true,true,true,true,false,false,false] rfl rfl (any_of HT_.out (by kernel_rfl)) (fun _ _ _ h=>h) (Or.inl ⟨by rfl,?_⟩) ?_ ?_;rotate_left
            ·intro w';go_simp;with_reducible rfl
            rotate_left
            ·simp only[Act.put,List.setIfInBounds_toArray,List.set_cons_zero,List.set_cons_succ,i64_w,i32_w];rfl
            refine take_ (i:=7) (N:=some 56) (v:=?_) (a':=?_) #[true,true,true,true,true,true,true,true,false,false] rfl rfl (take_ofW HT_.out HW_.out (by kernel_rfl)) (fun _ _ _ h=>h) (Or.inl ⟨by rfl,?_⟩) hHeld ?_ ?_;rotate_left
            ·rintro w' ⟨s0,s1,s2⟩;go_simp;with_reducible rfl
            rotate_left
            ·simp only[Act.put,List.setIfInBounds_toArray,List.set_cons_zero,List.set_cons_succ,i64_w,i32_w];rfl
            refine pure_ (i:=8) (N:=some 57) (v:=?_) (a':=?_) #[true,true,true,true,true,true,true,true,true,false] rfl rfl (any_of HT_.out (by kernel_rfl)) (fun _ _ _ h=>h) (Or.inl ⟨by rfl,?_⟩) ?_ ?_;rotate_left
            ·intro w';go_simp;with_reducible rfl
            rotate_left
            ·simp only[Act.put,List.setIfInBounds_toArray,List.set_cons_zero,List.set_cons_succ,i64_w,i32_w];rfl
            refine pure_ (i:=9) (N:=some 58) (v:=?_) (a':=?_) #[true,true,true,true,true,true,true,true,true,true] rfl rfl (any_of HT_.out (by kernel_rfl)) (fun _ _ _ h=>h) (Or.inl ⟨by rfl,?_⟩) ?_ ?_;rotate_left
            ·intro w';go_simp;with_reducible rfl
            rotate_left
            ·simp only[Act.put,List.setIfInBounds_toArray,List.set_cons_zero,List.set_cons_succ,i64_w,i32_w];rfl
            refine done_ (done_of HT_.out (by kernel_rfl)) ?_;(try go_wp2);go_loopg [5] k3 (fun kq v5 w'=> ∃ (x5_4:Int),v5= .int .i64 x5_4∧Aside0 (legationref11_Right.l2 kq x4_3 x5_4 l0_0 l0_1=some r)∧Aside0 (kq≤k3)∧Aside0 (w'.heap[gb268]? =some (.cells #[(.slice A0_0 l0_0.length c0_0),(.slice (some ad274) l0_1.length c0_1)] 25 (0,0)))∧Aside0 (Below w.heap.size w w'));(case atStart=>exact⟨(0),(by rfl),H',⟨Nat.le_refl _⟩,⟨by exact BK268.out⟩,⟨by repeat((with_reducible exact HB.out))⟩⟩);case round=>
             clear H';(try clear c25b0);(try clear c26b0);(try clear c27b1);(try clear hcz28_1);(try clear hx274_0);(try clear p274);(try clear q274);obtain⟨x5_4,rfl,HA,HK4,BK268,HB⟩:=hrel;cases gk with
             |zero=>exact absurd HA.out (by simp[legationref11_Right.l2])
             |succ k4=>
              have H:=HA.out;clear HA;simp only[legationref11_Right.l2]at H;by_cases c30:0≤x4_3
              ·rw[if_pos c30]at H;have c30b0:decide (0≤x4_3)=true:=decide_eq_true c30;clear c30;by_cases c31:x4_3<(l0_1.length:Int)
               ·rw[if_pos c31]at H;have c31b0:decide (x4_3<(l0_1.length:Int))=true:=decide_eq_true c31;clear c31;by_cases c32:x5_4<((rd_L3 l0_1 x4_3).length:Int)
                ·rw[if_pos c32]at H;have c32b0:decide (x5_4<((rd_L3 l0_1 x4_3).length:Int))=true:=decide_eq_true c32;clear c32;by_cases c33:0≤x5_4
                 ·rw[if_pos c33]at H;have c33b0:decide (0≤x5_4)=true:=decide_eq_true c33;clear c33;replace H:=Option.bind_eq_some_iff.mp H;obtain⟨t278,A340,H⟩:=H;replace H:(if t278=true then(if((rd_T43 (rd_L3 l0_1 x4_3) x5_4).f0)=4 then(some false)else(legationref11_Right.l2 k4 x4_3 (wrap64 (x5_4+1)) l0_0 l0_1))else(some false))=some r:=H;have A34:=Aside0.mk A340;clear A340;by_cases c35:t278=true
                  ·subst c35;have H1:(if((rd_T43 (rd_L3 l0_1 x4_3) x5_4).f0)=4 then(some false)else(legationref11_Right.l2 k4 x4_3 (wrap64 (x5_4+1)) l0_0 l0_1))=some r:=(by rw[if_pos rfl]at H;exact H);clear H;have H:=H1;clear H1;by_cases c36:((rd_T43 (rd_L3 l0_1 x4_3) x5_4).f0)=4
                   ·rw[if_pos c36]at H;have c36b0:(((rd_T43 (rd_L3 l0_1 x4_3) x5_4).f0)==4)=true:=beq_iff_eq.mpr c36;clear c36;obtain rfl:=Option.some.inj H;have hcz37_1:wr.cell? ⟨gb268,1,none⟩=some (.slice (some ad274) l0_1.length c0_1):=(blk_cell BK268.out 1).trans rfl;have p275:0≤(x4_3:Int):=of_decide_eq_true (by(with_reducible assumption));have q275:x4_3<(l0_1.length:Int):=of_decide_eq_true (by(with_reducible assumption));obtain⟨ad275,A275_0,c275_0,e275,hx275_0,hl275_0,hi275_0⟩:=at_L3 HR0_1.out x4_3 p275 q275;obtain rfl:ad274=ad275:=(by injection e275);replace hx275_0:=(HB.out.cell (World.block_lt_of_cell? w _ hx275_0)).trans hx275_0;have HR275_0:=Aside0.mk hi275_0;have HC275_0:=Aside0.mk hl275_0;clear hi275_0 hl275_0;replace p275:=eq_true p275;replace q275:=eq_true q275;have p276:0≤(x4_3:Int):=of_decide_eq_true (by(with_reducible assumption));have q276:x4_3<(l0_1.length:Int):=of_decide_eq_true (by(with_reducible assumption));obtain⟨ad276,A276_0,c276_0,e276,hx276_0,hl276_0,hi276_0⟩:=at_L3 HR0_1.out x4_3 p276 q276;obtain rfl:ad274=ad276:=(by injection e276);replace hx276_0:=(HB.out.cell (World.block_lt_of_cell? w _ hx276_0)).trans hx276_0;have HR276_0:=Aside0.mk hi276_0;have HC276_0:=Aside0.mk hl276_0;clear hi276_0 hl276_0;replace p276:=eq_true p276;replace q276:=eq_true q276;have ea_:=Option.some.inj (hx275_0.symm.trans hx276_0);injection ea_ with ea_ en_ ec_
                    subst ea_;subst ec_;clear en_;have p277:0≤(x5_4:Int):=of_decide_eq_true (by(with_reducible assumption));have q277:x5_4<((rd_L3 l0_1 x4_3).length:Int):=of_decide_eq_true (by(with_reducible assumption));obtain⟨ad277,e277,hx277_0,hx277_1,hx277_2,hx277_3⟩:=at_T43 HR276_0.out x5_4 p277 q277;cases e277
                    replace hx277_0:=(HB.out.cell (World.block_lt_of_cell? w _ hx277_0)).trans hx277_0;replace hx277_1:=(HB.out.cell (World.block_lt_of_cell? w _ hx277_1)).trans hx277_1;replace hx277_2:=(HB.out.cell (World.block_lt_of_cell? w _ hx277_2)).trans hx277_2;replace hx277_3:=(HB.out.cell (World.block_lt_of_cell? w _ hx277_3)).trans hx277_3;replace p277:=eq_true p277;replace q277:=eq_true q277;go_wp2_with (((with_reducible refine gate_callee (f:=63) rfl ?_);refine goesL_ (some 77) rfl rfl Tryz.func63 (by kernel_rfl) rfl #[.agg #[.int .i64 ((rd_T43 (rd_L3 l0_1 x4_3) x5_4).f0),.string ((rd_T43 (rd_L3 l0_1 x4_3) x5_4).f1),.string ((rd_T43 (rd_L3 l0_1 x4_3) x5_4).f2),.string ((rd_T43 (rd_L3 l0_1 x4_3) x5_4).f3)]] rfl (by(try simp only[List.map_toArray,List.map_cons,List.map_nil]);rfl) ?_;(with_reducible refine(legationref01_Right.calls k4 ((rd_T43 (rd_L3 l0_1 x4_3) x5_4).f0) ((rd_T43 (rd_L3 l0_1 x4_3) x5_4).f1) ((rd_T43 (rd_L3 l0_1 x4_3) x5_4).f2) ((rd_T43 (rd_L3 l0_1 x4_3) x5_4).f3) true _ A34.out).mono ?_);rintro e w38 ⟨rfl,hb⟩;refine⟨_,rfl,?_⟩;have n0_:=Aside0.mk (blk_below (g:=gb268) (o:= .cells #[.slice A0_0 l0_0.length c0_0,.slice (some ad274) l0_1.length c0_1] 25 (0,0)) (by exact BK268.out) hb);have n1_:=Aside0.mk (below_step (by repeat((with_reducible exact HB.out))) hb);clear BK268;clear HB;have BK268:=n0_;have HB:=n1_;clear n0_ n1_;(try clear hb);have hcz39_1:w38.cell? ⟨gb268,1,none⟩=some (.slice (some ad274) l0_1.length c0_1):=(blk_cell BK268.out 1).trans rfl;have p279:0≤(x4_3:Int):=of_decide_eq_true (by(with_reducible assumption));have q279:x4_3<(l0_1.length:Int):=of_decide_eq_true (by(with_reducible assumption));obtain⟨ad279,A279_0,c279_0,e279,hx279_0,hl279_0,hi279_0⟩:=at_L3 HR0_1.out x4_3 p279 q279;obtain rfl:ad274=ad279:=(by injection e279);replace hx279_0:=(HB.out.cell (World.block_lt_of_cell? w _ hx279_0)).trans hx279_0;have HR279_0:=Aside0.mk hi279_0;have HC279_0:=Aside0.mk hl279_0;clear hi279_0 hl279_0;replace p279:=eq_true p279;replace q279:=eq_true q279;have p280:0≤(x5_4:Int):=of_decide_eq_true (by(with_reducible assumption));have q280:x5_4<((rd_L3 l0_1 x4_3).length:Int):=of_decide_eq_true (by(with_reducible assumption));obtain⟨ad280,e280,hx280_0,hx280_1,hx280_2,hx280_3⟩:=at_T43 HR279_0.out x5_4 p280 q280;cases e280;replace hx280_0:=(HB.out.cell (World.block_lt_of_cell? w _ hx280_0)).trans hx280_0;replace hx280_1:=(HB.out.cell (World.block_lt_of_cell? w _ hx280_1)).trans hx280_1;replace hx280_2:=(HB.out.cell (World.block_lt_of_cell? w _ hx280_2)).trans hx280_2;replace hx280_3:=(HB.out.cell (World.block_lt_of_cell? w _ hx280_3)).trans hx280_3;replace p280:=eq_true p280;replace q280:=eq_true q280));go_ret;exact⟨by rfl,by repeat((with_reducible exact HB.out))⟩
                   ·rw[if_neg c36]at H;have c36b0:(((rd_T43 (rd_L3 l0_1 x4_3) x5_4).f0)==4)=false:=beq_eq_false_iff_ne.mpr c36;have H':=Aside0.mk H;clear H;have hcz40_1:wr.cell? ⟨gb268,1,none⟩=some (.slice (some ad274) l0_1.length c0_1):=(blk_cell BK268.out 1).trans rfl;have p275:0≤(x4_3:Int):=of_decide_eq_true (by(with_reducible assumption));have q275:x4_3<(l0_1.length:Int):=of_decide_eq_true (by(with_reducible assumption));obtain⟨ad275,A275_0,c275_0,e275,hx275_0,hl275_0,hi275_0⟩:=at_L3 HR0_1.out x4_3 p275 q275;obtain rfl:ad274=ad275:=(by injection e275);replace hx275_0:=(HB.out.cell (World.block_lt_of_cell? w _ hx275_0)).trans hx275_0;have HR275_0:=Aside0.mk hi275_0;have HC275_0:=Aside0.mk hl275_0;clear hi275_0 hl275_0;replace p275:=eq_true p275;replace q275:=eq_true q275;have p276:0≤(x4_3:Int):=of_decide_eq_true (by(with_reducible assumption));have q276:x4_3<(l0_1.length:Int):=of_decide_eq_true (by(with_reducible assumption));obtain⟨ad276,A276_0,c276_0,e276,hx276_0,hl276_0,hi276_0⟩:=at_L3 HR0_1.out x4_3 p276 q276;obtain rfl:ad274=ad276:=(by injection e276);replace hx276_0:=(HB.out.cell (World.block_lt_of_cell? w _ hx276_0)).trans hx276_0;have HR276_0:=Aside0.mk hi276_0;have HC276_0:=Aside0.mk hl276_0;clear hi276_0 hl276_0;replace p276:=eq_true p276;replace q276:=eq_true q276;have ea_:=Option.some.inj (hx275_0.symm.trans hx276_0);injection ea_ with ea_ en_ ec_
                    subst ea_;subst ec_;clear en_;have p277:0≤(x5_4:Int):=of_decide_eq_true (by(with_reducible assumption));have q277:x5_4<((rd_L3 l0_1 x4_3).length:Int):=of_decide_eq_true (by(with_reducible assumption));obtain⟨ad277,e277,hx277_0,hx277_1,hx277_2,hx277_3⟩:=at_T43 HR276_0.out x5_4 p277 q277;cases e277
                    replace hx277_0:=(HB.out.cell (World.block_lt_of_cell? w _ hx277_0)).trans hx277_0;replace hx277_1:=(HB.out.cell (World.block_lt_of_cell? w _ hx277_1)).trans hx277_1;replace hx277_2:=(HB.out.cell (World.block_lt_of_cell? w _ hx277_2)).trans hx277_2;replace hx277_3:=(HB.out.cell (World.block_lt_of_cell? w _ hx277_3)).trans hx277_3;replace p277:=eq_true p277;replace q277:=eq_true q277;go_wp2_with (((with_reducible refine gate_callee (f:=63) rfl ?_);refine goesL_ (some 77) rfl rfl Tryz.func63 (by kernel_rfl) rfl #[.agg #[.int .i64 ((rd_T43 (rd_L3 l0_1 x4_3) x5_4).f0),.string ((rd_T43 (rd_L3 l0_1 x4_3) x5_4).f1),.string ((rd_T43 (rd_L3 l0_1 x4_3) x5_4).f2),.string ((rd_T43 (rd_L3 l0_1 x4_3) x5_4).f3)]] rfl (by(try simp only[List.map_toArray,List.map_cons,List.map_nil]);rfl) ?_;(with_reducible refine(legationref01_Right.calls k4 ((rd_T43 (rd_L3 l0_1 x4_3) x5_4).f0) ((rd_T43 (rd_L3 l0_1 x4_3) x5_4).f1) ((rd_T43 (rd_L3 l0_1 x4_3) x5_4).f2) ((rd_T43 (rd_L3 l0_1 x4_3) x5_4).f3) true _ A34.out).mono ?_);rintro e w41 ⟨rfl,hb⟩;refine⟨_,rfl,?_⟩;have n0_:=Aside0.mk (blk_below (g:=gb268) (o:= .cells #[.slice A0_0 l0_0.length c0_0,.slice (some ad274) l0_1.length c0_1] 25 (0,0)) (by exact BK268.out) hb);have n1_:=Aside0.mk (below_step (by repeat((with_reducible exact HB.out))) hb);clear BK268;clear HB;have BK268:=n0_;have HB:=n1_;clear n0_ n1_;(try clear hb);have hcz42_1:w41.cell? ⟨gb268,1,none⟩=some (.slice (some ad274) l0_1.length c0_1):=(blk_cell BK268.out 1).trans rfl;have p279:0≤(x4_3:Int):=of_decide_eq_true (by(with_reducible assumption));have q279:x4_3<(l0_1.length:Int):=of_decide_eq_true (by(with_reducible assumption));obtain⟨ad279,A279_0,c279_0,e279,hx279_0,hl279_0,hi279_0⟩:=at_L3 HR0_1.out x4_3 p279 q279;obtain rfl:ad274=ad279:=(by injection e279);replace hx279_0:=(HB.out.cell (World.block_lt_of_cell? w _ hx279_0)).trans hx279_0;have HR279_0:=Aside0.mk hi279_0;have HC279_0:=Aside0.mk hl279_0;clear hi279_0 hl279_0;replace p279:=eq_true p279;replace q279:=eq_true q279;have p280:0≤(x5_4:Int):=of_decide_eq_true (by(with_reducible assumption));have q280:x5_4<((rd_L3 l0_1 x4_3).length:Int):=of_decide_eq_true (by(with_reducible assumption));obtain⟨ad280,e280,hx280_0,hx280_1,hx280_2,hx280_3⟩:=at_T43 HR279_0.out x5_4 p280 q280;cases e280;replace hx280_0:=(HB.out.cell (World.block_lt_of_cell? w _ hx280_0)).trans hx280_0;replace hx280_1:=(HB.out.cell (World.block_lt_of_cell? w _ hx280_1)).trans hx280_1;replace hx280_2:=(HB.out.cell (World.block_lt_of_cell? w _ hx280_2)).trans hx280_2;replace hx280_3:=(HB.out.cell (World.block_lt_of_cell? w _ hx280_3)).trans hx280_3;replace p280:=eq_true p280;replace q280:=eq_true q280));go_roundg k4;(case measure=>have:=HJ1.out;have:=HK2.out;have:=HK3.out;have:=HK4.out;omega);case rel=>exact⟨(wrap64 (x5_4+1)),(by rfl),H',⟨by have:=HJ1.out;have:=HK2.out;have:=HK3.out;have:=HK4.out;omega⟩,⟨by exact BK268.out⟩,⟨by repeat((with_reducible exact HB.out))⟩⟩
                  ·replace c35:=Bool.eq_false_iff.mpr c35;subst c35;have H1:(some false)=some r:=(by rw[if_neg (show ¬(false=true)by decide)]at H;exact H);clear H;have H:=H1;clear H1;obtain rfl:=Option.some.inj H;have hcz43_1:wr.cell? ⟨gb268,1,none⟩=some (.slice (some ad274) l0_1.length c0_1):=(blk_cell BK268.out 1).trans rfl;have p275:0≤(x4_3:Int):=of_decide_eq_true (by(with_reducible assumption));have q275:x4_3<(l0_1.length:Int):=of_decide_eq_true (by(with_reducible assumption));obtain⟨ad275,A275_0,c275_0,e275,hx275_0,hl275_0,hi275_0⟩:=at_L3 HR0_1.out x4_3 p275 q275;obtain rfl:ad274=ad275:=(by injection e275);replace hx275_0:=(HB.out.cell (World.block_lt_of_cell? w _ hx275_0)).trans hx275_0;have HR275_0:=Aside0.mk hi275_0;have HC275_0:=Aside0.mk hl275_0;clear hi275_0 hl275_0;replace p275:=eq_true p275;replace q275:=eq_true q275;have p276:0≤(x4_3:Int):=of_decide_eq_true (by(with_reducible assumption));have q276:x4_3<(l0_1.length:Int):=of_decide_eq_true (by(with_reducible assumption));obtain⟨ad276,A276_0,c276_0,e276,hx276_0,hl276_0,hi276_0⟩:=at_L3 HR0_1.out x4_3 p276 q276;obtain rfl:ad274=ad276:=(by injection e276);replace hx276_0:=(HB.out.cell (World.block_lt_of_cell? w _ hx276_0)).trans hx276_0;have HR276_0:=Aside0.mk hi276_0;have HC276_0:=Aside0.mk hl276_0;clear hi276_0 hl276_0;replace p276:=eq_true p276;replace q276:=eq_true q276;have ea_:=Option.some.inj (hx275_0.symm.trans hx276_0);injection ea_ with ea_ en_ ec_
                   subst ea_;subst ec_;clear en_;have p277:0≤(x5_4:Int):=of_decide_eq_true (by(with_reducible assumption));have q277:x5_4<((rd_L3 l0_1 x4_3).length:Int):=of_decide_eq_true (by(with_reducible assumption));obtain⟨ad277,e277,hx277_0,hx277_1,hx277_2,hx277_3⟩:=at_T43 HR276_0.out x5_4 p277 q277;cases e277
                   replace hx277_0:=(HB.out.cell (World.block_lt_of_cell? w _ hx277_0)).trans hx277_0;replace hx277_1:=(HB.out.cell (World.block_lt_of_cell? w _ hx277_1)).trans hx277_1;replace hx277_2:=(HB.out.cell (World.block_lt_of_cell? w _ hx277_2)).trans hx277_2;replace hx277_3:=(HB.out.cell (World.block_lt_of_cell? w _ hx277_3)).trans hx277_3;replace p277:=eq_true p277;replace q277:=eq_true q277;go_wp2_with (((with_reducible refine gate_callee (f:=63) rfl ?_);refine goesL_ (some 77) rfl rfl Tryz.func63 (by kernel_rfl) rfl #[.agg #[.int .i64 ((rd_T43 (rd_L3 l0_1 x4_3) x5_4).f0),.string ((rd_T43 (rd_L3 l0_1 x4_3) x5_4).f1),.string ((rd_T43 (rd_L3 l0_1 x4_3) x5_4).f2),.string ((rd_T43 (rd_L3 l0_1 x4_3) x5_4).f3)]] rfl (by(try simp only[List.map_toArray,List.map_cons,List.map_nil]);rfl) ?_;(with_reducible refine(legationref01_Right.calls k4 ((rd_T43 (rd_L3 l0_1 x4_3) x5_4).f0) ((rd_T43 (rd_L3 l0_1 x4_3) x5_4).f1) ((rd_T43 (rd_L3 l0_1 x4_3) x5_4).f2) ((rd_T43 (rd_L3 l0_1 x4_3) x5_4).f3) false _ A34.out).mono ?_);rintro e w44 ⟨rfl,hb⟩;refine⟨_,rfl,?_⟩;have n0_:=Aside0.mk (blk_below (g:=gb268) (o:= .cells #[.slice A0_0 l0_0.length c0_0,.slice (some ad274) l0_1.length c0_1] 25 (0,0)) (by exact BK268.out) hb);have n1_:=Aside0.mk (below_step (by repeat((with_reducible exact HB.out))) hb);clear BK268;clear HB;have BK268:=n0_;have HB:=n1_;clear n0_ n1_;(try clear hb)));go_ret;exact⟨by rfl,by repeat((with_reducible exact HB.out))⟩
                 ·rw[if_neg c33]at H;exact absurd H (by simp)
                ·rw[if_neg c32]at H;have c32b0:decide (x5_4<((rd_L3 l0_1 x4_3).length:Int))=false:=decide_eq_false c32;clear c32;have H':=Aside0.mk H;clear H;have hcz45_1:wr.cell? ⟨gb268,1,none⟩=some (.slice (some ad274) l0_1.length c0_1):=(blk_cell BK268.out 1).trans rfl;have p275:0≤(x4_3:Int):=of_decide_eq_true (by(with_reducible assumption));have q275:x4_3<(l0_1.length:Int):=of_decide_eq_true (by(with_reducible assumption));obtain⟨ad275,A275_0,c275_0,e275,hx275_0,hl275_0,hi275_0⟩:=at_L3 HR0_1.out x4_3 p275 q275;obtain rfl:ad274=ad275:=(by injection e275);replace hx275_0:=(HB.out.cell (World.block_lt_of_cell? w _ hx275_0)).trans hx275_0;have HR275_0:=Aside0.mk hi275_0;have HC275_0:=Aside0.mk hl275_0;clear hi275_0 hl275_0;replace p275:=eq_true p275;replace q275:=eq_true q275;go_wp2;go_roundg k4;(case measure=>have:=HJ1.out;have:=HK2.out;have:=HK3.out;have:=HK4.out;omega);case rel=>exact⟨(wrap64 (x4_3+1)),(by rfl),H',⟨by have:=HJ1.out;have:=HK2.out;have:=HK3.out;have:=HK4.out;omega⟩,⟨by exact BK268.out⟩,⟨by repeat((with_reducible exact HB.out))⟩⟩
               ·rw[if_neg c31]at H;exact absurd H (by simp)
              ·rw[if_neg c30]at H;exact absurd H (by simp)
           ·rw[if_neg c27]at H;have c27b1:(((rd_L3 l0_1 x4_3).length:Int) !=(l0_0.length:Int))=true:=bne_iff_ne.mpr c27;obtain rfl:=Option.some.inj H;have hcz46_1:wr.cell? ⟨gb268,1,none⟩=some (.slice A0_1 l0_1.length c0_1):=(blk_cell BK268.out 1).trans rfl;(try go_wp2);have n0_:=Aside0.mk (blk_drew BK268.out);have n1_:=Aside0.mk (below_drew1 HB.out);clear BK268;clear HB;have BK268:=n0_;have HB:=n1_;clear n0_ n1_;have p274:0≤(x4_3:Int):=of_decide_eq_true (by(with_reducible assumption));have q274:x4_3<(l0_1.length:Int):=of_decide_eq_true (by(with_reducible assumption));obtain⟨ad274,A274_0,c274_0,e274,hx274_0,hl274_0,hi274_0⟩:=at_L3 HR0_1.out x4_3 p274 q274;have hw274_0:=hx274_0;cases e274
            replace hx274_0:=(HB.out.cell (World.block_lt_of_cell? w _ hx274_0)).trans hx274_0;have HR274_0:=Aside0.mk hi274_0;have HC274_0:=Aside0.mk hl274_0;clear hi274_0 hl274_0;replace p274:=eq_true p274;replace q274:=eq_true q274;refine start_ (n:=10) (S:=fun w'=>w'.cell? ⟨gb268,0,none⟩=some (.slice A0_0 l0_0.length c0_0)∧w'.cell? ⟨gb268,1,none⟩=some (.slice (some ad274) l0_1.length c0_1)∧w'.cell? (ad274.add (x4_3).toNat)=some (.slice A274_0 (rd_L3 l0_1 x4_3).length c274_0)) (ds:= []) #[false,false,false,false,false,false,false,false,false,false] (by kernel_rfl) rfl rfl ⟨(blk_cell BK268.out 0).trans rfl,(blk_cell BK268.out 1).trans rfl,((HB.out.cell (World.block_lt_of_cell? w _ hw274_0)).trans hw274_0)⟩ (fun hHeld=>?_);refine with_tabW legationref11_Right.tab11 legationref11_Right.bits11 (fun HT_ HW_=>?_);generalize wr.drew=w47 at BK268 HB HR274_0 hx274_0 hHeld ⊢;refine pure_ (i:=0) (N:=some 49) (v:=?_) (a':=?_) #[true,false,false,false,false,false,false,false,false,false] rfl rfl (any_of HT_.out (by kernel_rfl)) (fun _ _ _ h=>h) (Or.inl ⟨by rfl,?_⟩) ?_ ?_;rotate_left
            ·intro w';go_simp;with_reducible rfl
            rotate_left
            ·simp only[Act.put,List.setIfInBounds_toArray,List.set_cons_zero,List.set_cons_succ,i64_w,i32_w];rfl
            refine pure_ (i:=2) (N:=some 51) (v:=?_) (a':=?_) #[true,false,true,false,false,false,false,false,false,false] rfl rfl (any_of HT_.out (by kernel_rfl)) (fun _ _ _ h=>h) (Or.inl ⟨by rfl,?_⟩) ?_ ?_;rotate_left
            ·intro w';go_simp;with_reducible rfl
            rotate_left
            ·simp only[Act.put,List.setIfInBounds_toArray,List.set_cons_zero,List.set_cons_succ,i64_w,i32_w];rfl
            refine pure_ (i:=6) (N:=some 55) (v:=?_) (a':=?_) #[true,false,true,false,false,false,true,false,false,false] rfl rfl (any_of HT_.out (by kernel_rfl)) (fun _ _ _ h=>h) (Or.inl ⟨by rfl,?_⟩) ?_ ?_;rotate_left
            ·intro w';go_simp;with_reducible rfl
            rotate_left
            ·simp only[Act.put,List.setIfInBounds_toArray,List.set_cons_zero,List.set_cons_succ,i64_w,i32_w];rfl
            refine take_ (i:=1) (N:=some 50) (v:=?_) (a':=?_) #[true,true,true,false,false,false,true,false,false,false] rfl rfl (take_ofW HT_.out HW_.out (by kernel_rfl)) (fun _ _ _ h=>h) (Or.inl ⟨by rfl,?_⟩) hHeld ?_ ?_;rotate_left
            ·rintro w' ⟨s0,s1,s2⟩;go_simp;with_reducible rfl
            rotate_left
            ·simp only[Act.put,List.setIfInBounds_toArray,List.set_cons_zero,List.set_cons_succ,i64_w,i32_w];rfl
            refine pure_ (i:=3) (N:=some 52) (v:=?_) (a':=?_) #[true,true,true,true,false,false,true,false,false,false] rfl rfl (any_of HT_.out (by kernel_rfl)) (fun _ _ _ h=>h) (Or.inl ⟨by rfl,?_⟩) ?_ ?_;rotate_left
            ·intro w';go_simp;with_reducible rfl
            rotate_left
            ·simp only[Act.put,List.setIfInBounds_toArray,List.set_cons_zero,List.set_cons_succ,i64_w,i32_w];rfl
            refine take_ (i:=4) (N:=some 53) (v:=?_) (a':=?_) #[true,true,true,true,true,false,true,false,false,false] rfl rfl (take_ofW HT_.out HW_.out (by kernel_rfl)) (fun _ _ _ h=>h) (Or.inl ⟨by rfl,?_⟩) hHeld ?_ ?_;rotate_left
            ·rintro w' ⟨s0,s1,s2⟩;go_simp;with_reducible rfl
            rotate_left
            ·simp only[Act.put,List.setIfInBounds_toArray,List.set_cons_zero,List.set_cons_succ,i64_w,i32_w];rfl
            refine pure_ (i:=5) (N:=some 54) (v:=?_) (a':=?_) #[true,true,true,true,true,true,true,false,false,false] rfl rfl (any_of HT_.out (by kernel_rfl)) (fun _ _ _ h=>h) (Or.inl ⟨by rfl,?_⟩) ?_ ?_;rotate_left
            ·intro w';go_simp;with_reducible rfl
            rotate_left
            ·simp only[Act.put,List.setIfInBounds_toArray,List.set_cons_zero,List.set_cons_succ,i64_w,i32_w];rfl
            refine take_ (i:=7) (N:=some 56) (v:=?_) (a':=?_) #[true,true,true,true,true,true,true,true,false,false] rfl rfl (take_ofW HT_.out HW_.out (by kernel_rfl)) (fun _ _ _ h=>h) (Or.inl ⟨by rfl,?_⟩) hHeld ?_ ?_;rotate_left
            ·rintro w' ⟨s0,s1,s2⟩;go_simp;with_reducible rfl
            rotate_left
            ·simp only[Act.put,List.setIfInBounds_toArray,List.set_cons_zero,List.set_cons_succ,i64_w,i32_w];rfl
            refine pure_ (i:=8) (N:=some 57) (v:=?_) (a':=?_) #[true,true,true,true,true,true,true,true,true,false] rfl rfl (any_of HT_.out (by kernel_rfl)) (fun _ _ _ h=>h) (Or.inl ⟨by rfl,?_⟩) ?_ ?_;rotate_left
            ·intro w';go_simp;with_reducible rfl
            rotate_left
            ·simp only[Act.put,List.setIfInBounds_toArray,List.set_cons_zero,List.set_cons_succ,i64_w,i32_w];rfl
            refine pure_ (i:=9) (N:=some 58) (v:=?_) (a':=?_) #[true,true,true,true,true,true,true,true,true,true] rfl rfl (any_of HT_.out (by kernel_rfl)) (fun _ _ _ h=>h) (Or.inl ⟨by rfl,?_⟩) ?_ ?_;rotate_left
            ·intro w';go_simp;with_reducible rfl
            rotate_left
            ·simp only[Act.put,List.setIfInBounds_toArray,List.set_cons_zero,List.set_cons_succ,i64_w,i32_w];rfl
            refine done_ (done_of HT_.out (by kernel_rfl)) ?_;(try go_wp2);go_ret;exact⟨by rfl,by repeat((with_reducible exact HB.out))⟩
          ·rw[if_neg c26]at H;exact absurd H (by simp)
         ·rw[if_neg c25]at H;have c25b0:decide (x4_3<(l0_1.length:Int))=false:=decide_eq_false c25;clear c25;obtain rfl:=Option.some.inj H;have hcz48_1:wr.cell? ⟨gb268,1,none⟩=some (.slice A0_1 l0_1.length c0_1):=(blk_cell BK268.out 1).trans rfl;go_wp2;go_ret;exact⟨by rfl,by repeat((with_reducible exact HB.out))⟩
end Go.Proofs.YtgabadlneeffkaaGreatDoor.P
