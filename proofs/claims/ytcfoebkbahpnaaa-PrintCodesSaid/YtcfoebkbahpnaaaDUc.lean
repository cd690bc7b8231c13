import Derived.Test.YtcfoebkbahpnaaaDUa
/- What the texts of triples and of tables come to: the program's, and the reference's. -/
namespace Go.Proofs.Ytcfoebkbahpnaaa.L
open Go.RowKit Go.Lib Go.Proofs.Ytcfoebkbahpnaaa Go.Proofs.YtcfoebkbahpnaaaW.PrintWords Go.Proofs.YtcfoebkbahpnaaaW.PrintLast
set_option linter.unusedVariables false
set_option linter.unusedSimpArgs false

theorem Ev.yes {α:Type} {c:Prop} [Decidable c] {g h:Nat→Option α} {v:α} (hc:c) (hv:Ev g v):Ev (fun k=>if c then g k else h k) v:=by
 simp only[if_pos hc];exact hv
theorem Ev.no {α:Type} {c:Prop} [Decidable c] {g h:Nat→Option α} {v:α} (hc:¬ c) (hv:Ev h v):Ev (fun k=>if c then g k else h k) v:=by
 simp only[if_neg hc];exact hv
theorem Ev.nowE {α:Type} {x v:α} (h:x=v):Ev (fun _=>some x) v:=h ▸ Ev.now _
theorem Ev.cast {α:Type} {g h:Nat→Option α} {v:α} (e: ∀ k,g k=h k) (hv:Ev h v):Ev g v:=by rw[show g=h from funext e];exact hv
theorem bsz (a:Array UInt8):(⟨a⟩:ByteArray).size=a.size:=rfl
theorem wordsP_all {xs:List (List UInt8)} (h: ∀ x ∈ xs,x≠ []):wordsP (xs.map ofL)=Lib.join xs [32]:=by
 unfold wordsP;congr 1;induction xs with
 |nil=>rfl
 |cons x xs ih=>
  have hb:(!((ofL x).data.toList==([]:List UInt8)))=true:=(by rw[ofL_toList,beq_eq_false_iff_ne.mpr (h x (List.mem_cons_self ..))];rfl);simp only[List.map_cons,List.filter,hb];rw[ih (fun y hy=>h y (List.mem_cons_of_mem _ hy)),ofL_toList]
theorem wordsT_ev (xs:List (List UInt8)) (hx:xs.length≤100) (hne: ∀ x ∈ xs,x≠ []) (hl:(Lib.join xs [32]).length≤140737488355328):Ev (fun k=>print_words.f k (xs.map ofL)) (ofL (Lib.join xs [32])):=by
 have:=words_ev (xs.map ofL) (by rw[List.length_map];exact hx) (by rw[wordsP_all hne];exact hl);rwa[wordsP_all hne]at this
/-! ### triples -/
def triT (t : S53) : List UInt8 := 32 :: (ofT (T t.f0) ++ 32 :: (ofT (T t.f1) ++ 32 :: (ofT (T t.f2) ++ [32, 46])))
def basA (l : List S53) : List UInt8 := 123 :: l.flatMap triT
def basT (l : List S53) : List UInt8 := basA l ++ [32, 125]
theorem basA_snoc (l:List S53) (t:S53):basA (l++ [t])=basA l++triT t:=by simp[basA]
def tri3 (t : S53) : Prop := okTm (T t.f0) = true ∧ okTm (T t.f1) = true ∧ okTm (T t.f2) = true
theorem triT_len {t:S53} (h:tri3 t):(triT t).length≤60005:=by
 have:=ofT_len h.1;have:=ofT_len h.2.1;have:=ofT_len h.2.2;simp[triT];omega
theorem basA_len: ∀ {l:List S53},(∀ t ∈ l,tri3 t)→(basA l).length≤1+60005*l.length
 | [],_=>by simp[basA]
 |t::r,h=>by
  have h1:=triT_len (h t (List.mem_cons_self ..));have h2:=basA_len (l:=r) (fun x hx=>h x (List.mem_cons_of_mem _ hx));simp only[basA,List.flatMap_cons,List.length_cons,List.length_append]at h2 ⊢;omega
theorem take_all {α:Type} {P:α→Prop} {l:List α} (h: ∀ t ∈ l,P t) (i:Nat): ∀ t ∈ l.take i,P t:=fun t ht=>h t (List.mem_of_mem_take ht)
theorem pbasic_loop (x:List S53) (hx:x.length≤32) (h: ∀ t ∈ x,tri3 t): ∀ (r:List S53) (i:Nat),x.drop i=r→
 Ev (fun k=>print_basic.l0 k (ofL (basA (x.take i))) x (x.length:Int) (i:Int)) (ofL (basT x)):=by
 intro r;induction r with
 |nil=>
  intro i hd;have hi:=len_of_drop hd;have hz:=basA_len h;refine Ev.step (fun k=>by rw[print_basic.l0]) ?_;refine Ev.no (by omega) ?_;rw[List.take_of_length_le hi];refine Ev.bind (a:=ofL (basT x)) ?_ (Ev.now _);have e:Lib.join [basA x,[125]] [32]=basT x:=(by simp[Lib.join_cons,Lib.joinTail,basT]);rw[← e];exact wordsT_ev [basA x,[125]] (by simp) (by simp[basA]) (by rw[e];simp[basT];omega)
 |cons t r ih=>
  intro i hd;obtain⟨hg,hi,hr,ht⟩:=get_of_drop hd z53;have hrd:rd_T53 x (i:Int)=t:=hg;have h3:tri3 t:=h t (List.mem_of_mem_drop (hd ▸ List.mem_cons_self ..));have hz:=basA_len (take_all h i);rw[List.length_take]at hz;have hz3:=triT_len h3;refine Ev.step (fun k=>by rw[print_basic.l0]) ?_;refine Ev.yes (by omega) (Ev.yes (by omega) (Ev.yes (by omega) ?_));simp only[hrd];refine Ev.bind (of_ev t.f0 h3.1) (Ev.bind (of_ev t.f1 h3.2.1) (Ev.bind (of_ev t.f2 h3.2.2) ?_));have e:Lib.join [basA (x.take i),ofT (T t.f0),ofT (T t.f1),ofT (T t.f2),[46]] [32]=basA (x.take (i+1)):=by
   rw[ht,basA_snoc];simp[Lib.join_cons,Lib.joinTail,triT]
  refine Ev.bind (a:=ofL (basA (x.take (i+1)))) ?_ ?_
  ·rw[← e];refine wordsT_ev [basA (x.take i),ofT (T t.f0),ofT (T t.f1),ofT (T t.f2),[46]] (by simp) ?_ ?_
   ·simp only[List.forall_mem_cons];exact⟨by simp[basA],ofT_ne h3.1,ofT_ne h3.2.1,ofT_ne h3.2.2,by decide,fun _ h_=>by cases h_⟩
   rw[e,ht,basA_snoc,List.length_append];omega
  rw[wrap_succ (by omega)];exact ih (i+1) hr
theorem pbasic_ev (x:List S53) (hx:x.length≤32) (h: ∀ t ∈ x,tri3 t):Ev (fun k=>print_basic.f k x) (ofL (basT x)):=pbasic_loop x hx h x 0 rfl
theorem rbasicT_loop (x:List S53) (hx:x.length≤32) (h: ∀ t ∈ x,tri3 t): ∀ (r:List S53) (i:Nat),x.drop i=r→
 Ev (fun k=>legationref09_basic.l0 k x (ofL (basA (x.take i)++ [32])) (i:Int)) (ofL (basT x)):=by
 intro r;induction r with
 |nil=>
  intro i hd;have hi:=len_of_drop hd;have hz:=basA_len h;refine Ev.step (fun k=>by rw[legationref09_basic.l0]) ?_;refine Ev.no (by omega) ?_;rw[List.take_of_length_le hi];refine Ev.yes (by simp only[ofL_size,List.length_append,List.length_cons,List.length_nil];omega) ?_;exact Ev.nowE (ba_ext (by simp[app_data,ofL_toList,basT]))
 |cons t r ih=>
  intro i hd;obtain⟨hg,hi,hr,ht⟩:=get_of_drop hd z53;have hrd:rd_T53 x (i:Int)=t:=hg;have h3:tri3 t:=h t (List.mem_of_mem_drop (hd ▸ List.mem_cons_self ..));have hz:=basA_len (take_all h i);rw[List.length_take]at hz;have l1:=ofT_len h3.1;have l2:=ofT_len h3.2.1;have l3:=ofT_len h3.2.2;refine Ev.step (fun k=>by rw[legationref09_basic.l0]) ?_;refine Ev.yes (by omega) (Ev.yes (by omega) ?_);simp only[hrd];refine Ev.bind (rof_ev t.f0 h3.1) (Ev.yes ?_ (Ev.yes ?_ (Ev.bind (rof_ev t.f1 h3.2.1) (Ev.yes ?_ (Ev.yes ?_ (Ev.bind (rof_ev t.f2 h3.2.2) (Ev.yes ?_ (Ev.yes ?_ ?_))))))));rotate_right
  ·rw[wrap_succ (by omega)];refine Ev.cast (fun k=>?_) (ih (i+1) hr);congr 1;rw[ht,basA_snoc];exact ba_ext (by simp[app_data,ofL_toList,triT])
  all_goals
   simp only[ByteArray.size_append,ofL_size,bsz,List.length_append,List.length_cons,List.length_nil,List.size_toArray]
   omega
theorem rbasicT_ev (x:List S53) (hx:x.length≤32) (h: ∀ t ∈ x,tri3 t):Ev (fun k=>legationref09_basic.f k x) (ofL (basT x)):=rbasicT_loop x hx h x 0 rfl
end Go.Proofs.Ytcfoebkbahpnaaa.L

/- What the texts of tables come to: the program's, and the reference's. -/
namespace Go.Proofs.Ytcfoebkbahpnaaa.L
open Go.RowKit Go.Lib Go.Proofs.Ytcfoebkbahpnaaa Go.Proofs.YtcfoebkbahpnaaaW.PrintWords Go.Proofs.YtcfoebkbahpnaaaW.PrintLast
set_option linter.unusedVariables false
set_option linter.unusedSimpArgs false

def rowA (row : List S50) : List UInt8 := row.flatMap fun t => 32 :: ofT (T t)
def rowT (row : List S50) : List UInt8 := 32 :: 40 :: (rowA row ++ [32, 41])
def vrsA (vars : List ByteArray) : List UInt8 := [123, 32, 86, 65, 76, 85, 69, 83, 32, 40] ++ vars.flatMap fun v => 32 :: 63 :: v.data.toList
def tabA (vars : List ByteArray) (rows : List (List S50)) : List UInt8 := vrsA vars ++ [32, 41, 32, 123] ++ rows.flatMap rowT
def tabT (vars : List ByteArray) (rows : List (List S50)) : List UInt8 := tabA vars rows ++ [32, 125, 32, 125]
structure tabOK (vars : List ByteArray) (rows : List (List S50)) : Prop where
  v : vars.length ≤ 32
  r : rows.length ≤ 64
  n : ∀ s ∈ vars, s.size ≤ 32
  l : ∀ row ∈ rows, row.length = vars.length
  t : ∀ row ∈ rows, ∀ t ∈ row, okTm (T t) = true
theorem rowA_snoc (l:List S50) (t:S50):rowA (l++ [t])=rowA l++32::ofT (T t):=by simp[rowA]
theorem vrsA_snoc (l:List ByteArray) (v:ByteArray):vrsA (l++ [v])=vrsA l++32::63::v.data.toList:=by simp[vrsA]
theorem tabA_snoc (vars:List ByteArray) (l:List (List S50)) (r:List S50):tabA vars (l++ [r])=tabA vars l++rowT r:=by simp[tabA]
theorem rowA_len: ∀ {l:List S50},(∀ t ∈ l,okTm (T t)=true)→(rowA l).length≤20001*l.length
 | [],_=>by simp[rowA]
 |t::r,h=>by
  have h1:=ofT_len (h t (List.mem_cons_self ..));have h2:=rowA_len (l:=r) (fun x hx=>h x (List.mem_cons_of_mem _ hx));simp only[rowA,List.flatMap_cons,List.length_cons,List.length_append]at h2 ⊢;omega
theorem vrsA_len: ∀ {l:List ByteArray},(∀ s ∈ l,s.size≤32)→(vrsA l).length≤10+34*l.length
 | [],_=>by simp[vrsA]
 |v::r,h=>by
  have h1:=h v (List.mem_cons_self ..);have h2:=vrsA_len (l:=r) (fun x hx=>h x (List.mem_cons_of_mem _ hx));rw[← size_toList]at h1;simp only[vrsA,List.flatMap_cons,List.length_cons,List.length_append]at h2 ⊢;omega
theorem rowsA_len (n:Nat) (hn:n≤32): ∀ {l:List (List S50)},(∀ r ∈ l,r.length=n)→(∀ r ∈ l,∀ t ∈ r,okTm (T t)=true)→(l.flatMap rowT).length≤640036*l.length
 | [],_,_=>by simp
 |r::l,hl,ht=>by
  have h1:=rowA_len (ht r (List.mem_cons_self ..));rw[hl r (List.mem_cons_self ..)]at h1;have h2:=rowsA_len n hn (l:=l) (fun x hx=>hl x (List.mem_cons_of_mem _ hx)) (fun x hx=>ht x (List.mem_cons_of_mem _ hx));simp only[List.flatMap_cons,List.length_cons,List.length_append,rowT,List.length_nil];omega
theorem tabA_len {vars:List ByteArray} {rows:List (List S50)} (h:tabOK vars rows) (i:Nat):(tabA vars (rows.take i)).length≤41000000:=by
 have h1:=vrsA_len h.n;have h2:=rowsA_len vars.length h.v (take_all h.l i) (take_all h.t i);rw[List.length_take]at h2;have:=h.v;have:=h.r;simp only[tabA,List.length_append,List.length_cons,List.length_nil];omega
theorem two_ev {a b c:List UInt8} (ha:a≠ []) (hb:b≠ []) (e:a++32::b=c) (hl:c.length≤140737488355328):Ev (fun k=>print_words.f k [ofL a,ofL b]) (ofL c):=by
 have e':Lib.join [a,b] [32]=c:=(by rw[← e];simp[Lib.join_cons,Lib.joinTail]);rw[← e'];exact wordsT_ev [a,b] (by simp) (by simp[ha,hb]) (by rw[e'];exact hl)
theorem vrsA_ne (l:List ByteArray):vrsA l≠ []:=by simp[vrsA]
theorem tabA_ne (vars:List ByteArray) (l:List (List S50)):tabA vars l≠ []:=by simp[tabA]
section
variable {vars:List ByteArray} {rows:List (List S50)} (h:tabOK vars rows)
include h
theorem ptab2 (i:Nat) (row:List S50) (hrow:row ∈ rows) (hi:i<rows.length) (ht1:rows.take (i+1)=rows.take i++ [row]) {v:ByteArray} (hn:Ev (fun k=>print_table.l1 k (ofL (tabA vars (rows.take (i+1)))) rows (rows.length:Int) ((i+1:Nat):Int)) v): ∀ (r:List S50) (j:Nat),row.drop j=r→
 Ev (fun k=>print_table.l2 k (ofL (tabA vars (rows.take i)++32::40::rowA (row.take j))) rows (rows.length:Int) (i:Int) row (row.length:Int) (j:Int)) v:=by
 have hz:=tabA_len h i;have hz1:=tabA_len h (i+1);have hv:=h.v;have hr:=h.r;have hl:=h.l row hrow;intro r;induction r with
 |nil=>
  intro j hd;have hj:=len_of_drop hd;have hzr:=rowA_len (h.t row hrow);refine Ev.step (fun k=>by rw[print_table.l2]) ?_;refine Ev.no (by omega) ?_;rw[List.take_of_length_le hj];refine Ev.bind (a:=ofL (tabA vars (rows.take (i+1)))) (two_ev (b:= [41]) (by simp) (by simp) (by rw[ht1,tabA_snoc];simp[rowT]) (by omega)) ?_;rw[wrap_succ (by omega)];exact hn
 |cons t r ih=>
  intro j hd;obtain⟨hg,hj,hr',ht⟩:=get_of_drop hd z50;have hrd:rd_T50 row (j:Int)=t:=hg;have hok:=h.t row hrow t (List.mem_of_mem_drop (hd ▸ List.mem_cons_self ..));have hzr:=rowA_len (take_all (h.t row hrow) (j+1));rw[List.length_take]at hzr;refine Ev.step (fun k=>by rw[print_table.l2]) ?_;refine Ev.yes (by omega) (Ev.yes (by omega) (Ev.yes (by omega) ?_));simp only[hrd];refine Ev.bind (of_ev t hok) ?_;refine Ev.bind (a:=ofL (tabA vars (rows.take i)++32::40::rowA (row.take (j+1)))) (two_ev (by simp) (ofT_ne hok) (by rw[ht,rowA_snoc];simp) (by simp only[List.length_append,List.length_cons];omega)) ?_;rw[wrap_succ (by omega)];exact ih (j+1) hr'
theorem ptab1: ∀ (r:List (List S50)) (i:Nat),rows.drop i=r→
 Ev (fun k=>print_table.l1 k (ofL (tabA vars (rows.take i))) rows (rows.length:Int) (i:Int)) (ofL (tabT vars rows)):=by
 have hr:=h.r;intro r;induction r with
 |nil=>
  intro i hd;have hi:=len_of_drop hd;have hz:=tabA_len h i;refine Ev.step (fun k=>by rw[print_table.l1]) ?_;refine Ev.no (by omega) ?_;rw[List.take_of_length_le hi]at hz ⊢;exact Ev.bind (two_ev (b:= [125,32,125]) (tabA_ne _ _) (by simp) (show _=tabT vars rows by simp[tabT]) (by simp[tabT];omega)) (Ev.now _)
 |cons row r ih=>
  intro i hd;obtain⟨hg,hi,hr',ht⟩:=get_of_drop hd ([]:List S50);have hrd:rd_L4 rows (i:Int)=row:=hg;have hz:=tabA_len h i;have hm:row ∈ rows:=List.mem_of_mem_drop (hd ▸ List.mem_cons_self ..);refine Ev.step (fun k=>by rw[print_table.l1]) ?_;refine Ev.yes (by omega) (Ev.yes (by omega) (Ev.yes (by omega) ?_));simp only[hrd];refine Ev.bind (two_ev (b:= [40]) (tabA_ne _ _) (by simp) (show _=tabA vars (rows.take i)++32::40::rowA (row.take 0)by simp[rowA]) (by simp[rowA];omega)) ?_;exact ptab2 h i row hm hi ht (ih (i+1) hr') row 0 rfl
theorem ptab0: ∀ (r:List ByteArray) (i:Nat),vars.drop i=r→
 Ev (fun k=>print_table.l0 k (ofL (vrsA (vars.take i))) vars (vars.length:Int) (i:Int) vars rows) (ofL (tabT vars rows)):=by
 have hv:=h.v;intro r;induction r with
 |nil=>
  intro i hd;have hi:=len_of_drop hd;have hz:=vrsA_len h.n;refine Ev.step (fun k=>by rw[print_table.l0]) ?_;refine Ev.no (by omega) ?_;rw[List.take_of_length_le hi];exact Ev.bind (two_ev (b:= [41,32,123]) (vrsA_ne _) (by simp) (show _=tabA vars (rows.take 0)by simp[tabA]) (by simp[tabA];omega)) (ptab1 h rows 0 rfl)
 |cons s r ih=>
  intro i hd;obtain⟨hg,hi,hr',ht⟩:=get_of_drop hd ByteArray.empty;have hrd:rdOf ByteArray.empty vars (i:Int)=s:=hg;have hs:=h.n s (List.mem_of_mem_drop (hd ▸ List.mem_cons_self ..));have hz:=vrsA_len (take_all h.n (i+1));rw[List.length_take]at hz;refine Ev.step (fun k=>by rw[print_table.l0]) ?_;refine Ev.yes (by omega) (Ev.yes (by omega) (Ev.yes (by omega) ?_));simp only[hrd];refine Ev.yes (by omega) ?_;rw[show(⟨#[63]⟩:ByteArray)++s=ofL (63::s.data.toList)from ba_ext (by simp[app_data,ofL_toList])];refine Ev.bind (two_ev (vrsA_ne _) (by simp) (show _=vrsA (vars.take (i+1))by rw[ht,vrsA_snoc]) (by omega)) ?_;rw[wrap_succ (by omega)];exact ih (i+1) hr'
theorem ptable_ev:Ev (fun k=>print_table.f k vars rows) (ofL (tabT vars rows)):=ptab0 h vars 0 rfl
/-! ### the reference's -/
theorem rtab2 (i:Nat) (row:List S50) (hrow:row ∈ rows) (hg:rd_L4 rows (i:Int)=row) (hi:i<rows.length) (ht1:rows.take (i+1)=rows.take i++ [row]) {v:ByteArray} (hn:Ev (fun k=>legationref09_table.l1 k (ofL (tabA vars (rows.take (i+1))++ [32])) ((i+1:Nat):Int) vars rows) v): ∀ (r:List S50) (j:Nat),row.drop j=r→
 Ev (fun k=>legationref09_table.l2 k (ofL (tabA vars (rows.take i)++32::40::(rowA (row.take j)++ [32]))) (i:Int) (j:Int) vars rows) v:=by
 have hz:=tabA_len h i;have hv:=h.v;have hr:=h.r;have hl:=h.l row hrow;intro r;induction r with
 |nil=>
  intro j hd;have hj:=len_of_drop hd;have hzr:=rowA_len (h.t row hrow);refine Ev.step (fun k=>by rw[legationref09_table.l2]) ?_;refine Ev.yes (by omega) (Ev.yes (by omega) ?_);simp only[hg];rw[List.take_of_length_le hj];refine Ev.no (by omega) (Ev.yes ?_ ?_)
  ·simp only[ofL_size,List.length_append,List.length_cons,List.length_nil];omega
  rw[wrap_succ (by omega)];refine Ev.cast (fun k=>?_) hn;congr 1;rw[ht1,tabA_snoc];exact ba_ext (by simp[app_data,ofL_toList,rowT])
 |cons t r ih=>
  intro j hd;obtain⟨hgt,hj,hr',ht⟩:=get_of_drop hd z50;have hrd:rd_T50 row (j:Int)=t:=hgt;have hok:=h.t row hrow t (List.mem_of_mem_drop (hd ▸ List.mem_cons_self ..));have hzr:=rowA_len (take_all (h.t row hrow) j);have hzt:=ofT_len hok;rw[List.length_take]at hzr;refine Ev.step (fun k=>by rw[legationref09_table.l2]) ?_;refine Ev.yes (by omega) (Ev.yes (by omega) ?_);simp only[hg,hrd];refine Ev.yes (by omega) (Ev.yes (by omega) (Ev.bind (rof_ev t hok) (Ev.yes ?_ (Ev.yes ?_ ?_))));rotate_right
  ·rw[wrap_succ (by omega)];refine Ev.cast (fun k=>?_) (ih (j+1) hr');congr 1;rw[ht,rowA_snoc];exact ba_ext (by simp[app_data,ofL_toList])
  all_goals
   simp only[ByteArray.size_append,ofL_size,bsz,List.length_append,List.length_cons,List.length_nil,List.size_toArray]
   omega
theorem rtab1: ∀ (r:List (List S50)) (i:Nat),rows.drop i=r→
 Ev (fun k=>legationref09_table.l1 k (ofL (tabA vars (rows.take i)++ [32])) (i:Int) vars rows) (ofL (tabT vars rows)):=by
 have hr:=h.r;intro r;induction r with
 |nil=>
  intro i hd;have hi:=len_of_drop hd;have hz:=tabA_len h i;refine Ev.step (fun k=>by rw[legationref09_table.l1]) ?_;refine Ev.no (by omega) ?_;rw[List.take_of_length_le hi]at hz ⊢;refine Ev.yes (by simp only[ofL_size,List.length_append,List.length_cons,List.length_nil];omega) ?_;exact Ev.nowE (ba_ext (by simp[app_data,ofL_toList,tabT]))
 |cons row r ih=>
  intro i hd;obtain⟨hg,hi,hr',ht⟩:=get_of_drop hd ([]:List S50);have hrd:rd_L4 rows (i:Int)=row:=hg;have hz:=tabA_len h i;have hm:row ∈ rows:=List.mem_of_mem_drop (hd ▸ List.mem_cons_self ..);refine Ev.step (fun k=>by rw[legationref09_table.l1]) ?_;refine Ev.yes (by omega) (Ev.yes (by simp only[ofL_size,List.length_append,List.length_cons,List.length_nil];omega) ?_);refine Ev.cast (fun k=>?_) (rtab2 h i row hm hrd hi ht (ih (i+1) hr') row 0 rfl);congr 1;exact ba_ext (by simp[app_data,ofL_toList,rowA])
theorem rtab0: ∀ (r:List ByteArray) (i:Nat),vars.drop i=r→
 Ev (fun k=>legationref09_table.l0 k (ofL (vrsA (vars.take i)++ [32])) (i:Int) vars rows) (ofL (tabT vars rows)):=by
 have hv:=h.v;intro r;induction r with
 |nil=>
  intro i hd;have hi:=len_of_drop hd;have hz:=vrsA_len h.n;refine Ev.step (fun k=>by rw[legationref09_table.l0]) ?_;refine Ev.no (by omega) ?_;rw[List.take_of_length_le hi];refine Ev.yes (by simp only[ofL_size,List.length_append,List.length_cons,List.length_nil];omega) ?_;refine Ev.cast (fun k=>?_) (rtab1 h rows 0 rfl);congr 1;exact ba_ext (by simp[app_data,ofL_toList,tabA])
 |cons s r ih=>
  intro i hd;obtain⟨hg,hi,hr',ht⟩:=get_of_drop hd ByteArray.empty;have hrd:rdOf ByteArray.empty vars (i:Int)=s:=hg;have hs:=h.n s (List.mem_of_mem_drop (hd ▸ List.mem_cons_self ..));have hz:=vrsA_len (take_all h.n i);rw[List.length_take]at hz;refine Ev.step (fun k=>by rw[legationref09_table.l0]) ?_;refine Ev.yes (by omega) (Ev.yes ?_ (Ev.yes (by omega) ?_));rotate_left
  ·simp only[hrd];refine Ev.yes ?_ (Ev.yes ?_ ?_);rotate_right
   ·rw[wrap_succ (by omega)];refine Ev.cast (fun k=>?_) (ih (i+1) hr');congr 1;rw[ht,vrsA_snoc];exact ba_ext (by simp[app_data,ofL_toList])
   all_goals
    simp only[ByteArray.size_append,ofL_size,bsz,List.length_append,List.length_cons,List.length_nil,List.size_toArray]
    omega
  simp only[ByteArray.size_append,ofL_size,bsz,List.length_append,List.length_cons,List.length_nil,List.size_toArray];omega
theorem rtable_ev:Ev (fun k=>legationref09_table.f k vars rows) (ofL (tabT vars rows)):=rtab0 h vars 0 rfl
end
end Go.Proofs.Ytcfoebkbahpnaaa.L
