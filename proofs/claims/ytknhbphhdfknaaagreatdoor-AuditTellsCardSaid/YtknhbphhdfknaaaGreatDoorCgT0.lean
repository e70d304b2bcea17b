/- The contracts: what the machine does at a call is what the plain function says. Written by mk.py. -/
import Derived.Test.YtknhbphhdfknaaaGreatDoorCtT
set_option linter.unusedVariables false
set_option linter.unusedSimpArgs false
set_option maxRecDepth 100000
namespace Go.Proofs.YtknhbphhdfknaaaGreatDoor
open Go.RowKit
theorem cl_63:Callable Tryz.prog 63:=⟨_,Tryz.func63,by kernel_rfl,by kernel_rfl⟩

def law07_weighNames.C (s:(List ByteArray)→Option Int):Prop:=∀ {d r},s d=some r→∀ {c b e f},Inv c b [] b [] c→(Sl b e f 1 (d.map D.str))→Calls Tryz.prog 63 #[.slice e d.length f] c (Ret c b [] fun G' L' v=>L'=[]∧v=i_ r)

theorem law07_weighNames.ok (k:Nat):law07_weighNames.C (law07_weighNames k):=by
  intro af r d aa h am ao f ag
  unfold law07_weighNames at d
  refine Ci 24 Tryz.func63 j j j fun a c=>?_
  refine S (G (R q 1 c j fun a c=>E (T (S (G (R q 1 c j fun a c=>E (T (S (S (G (R q 1 c j fun a c=>E (T ?_))))))))))))
  obtain ⟨ae,g,ab⟩:=bd d;refine X c f (fun e L a' w'=>∃ z o,ae = .go z∧h.le o∧Env a' 24 [(3,i_ z.1)]∧Inv aa h [] o L w') ?_ ?_;rotate_left
  · rintro a w ⟨z,o,rfl,ap,c,f⟩;have d:=Lg ab;refine T (S (G (R q 2 c j fun a c=>E (T (V ?_)))));cases d;refine N (v:=_) c j ⟨_,_,_,j,f.nil,j,j⟩
  
  refine O (Q c f (fun e L n' a' w'=>∃ n i,whileL (law07_weighNames.b0 k af) n' n=some ae∧h.le i∧Env a' 24 (sl e [0] [(3,i_ n.1),(4,i_ n.2)])∧Inv aa h [] i L w') _ ⟨_,h,g,rf,c.kp j,f⟩ ?_)
  rintro y a w ⟨n,i,g,u,c,f⟩;rcases y with _ | y
  · cases g
  obtain ⟨ar,d,g⟩:=Wh g;unfold law07_weighNames.b0 at d;refine S (S ?_);obtain ⟨ad,d,ai⟩:=bd d
  refine X c f (fun e L a' w'=>∃ l,i.le l∧Env a' 24 (sl e [0,3,4] [(12,.bool ad)])∧Inv aa h [] l L w') ?_ ?_
  · refine G (R q 5 c j fun a c=>?_);rcases Bo (decide (n.2 < (af.length:Int))) with m | m
    · replace d:=ct m d;have c:=c.tr (t:=9) j m;refine R q 3 c j fun a c=>E (T ?_);cases d;exact ⟨i,rf,c.kp j,f⟩
    replace d:=cf m d;have c:=c.tr (t:=9) j m;refine R q 3 c j fun a c=>E (T ?_);cases d;exact ⟨i,rf,c.kp j,f⟩
  rintro a w ⟨l,x,c,f⟩;have d:=ai;refine T (Cc (b:=ad) c j (fun s=>?_) (fun s=>?_));rotate_left
  · replace d:=cf s d;refine Ex (Xe (Xe (Xh (T ?_))));cases d;obtain rfl:=Wb g;exact ⟨_,l,j,(u.t x),c.kp j,f⟩
  replace d:=ct s d;refine K (T (S (O (S (G (R q 3 c j fun a c=>E (T (S (G (R q 2 c j fun a c=>?_))))))))));obtain ⟨al,ac,d⟩:=bd d
  obtain ⟨an,aq,cs,ak,aj,ah⟩:=Sa (ag.m (u.t x)) (Go ac).1 (Go ac).2;obtain rfl:=rep_str.1 aj
  refine L f c j (I q ak j j j) j fun a c=>L f c j (Fg q ah 0 j j j j) j fun a c=>R q 2 c j fun a c=>E (T (Cc (b:=decide ((1200:Int) < (al.size:Int))) c j (fun p=>?_) (fun p=>?_)))
  rotate_left
  · replace d:=cf p d;refine K (xB (T (G (R q 3 c j fun a c=>E (T ?_)))));cases d;exact ⟨y,Nat.lt_succ_self _,_,l,g,(u.t x),c.kp j,f⟩
  replace d:=ct p d;refine S (G (R q 1 c j fun a c=>E (T (V (Xb (Xr (Xr (Xb (Xr (Xr ?_))))))))));cases d;obtain rfl:=Wr g;have d:=Le ab;cases d
  refine N (v:=_) c j ⟨_,_,_,j,f.nil,j,j⟩

theorem cl_64:Callable Tryz.prog 64:=⟨_,Tryz.func64,by kernel_rfl,by kernel_rfl⟩

def law07_weighPairs.C (s:(List TPair)→Option Int):Prop:=∀ {d r},s d=some r→∀ {c b e f},Inv c b [] b [] c→(Sl b e f 2 (d.map TPair.d))→Calls Tryz.prog 64 #[.slice e d.length f] c (Ret c b [] fun G' L' v=>L'=[]∧v=i_ r)

theorem law07_weighPairs.ok (k:Nat):law07_weighPairs.C (law07_weighPairs k):=by
  intro af r d ab h aw a1 f ac
  unfold law07_weighPairs at d
  refine Ci 31 Tryz.func64 j j j fun a c=>?_
  refine S (G (R q 1 c j fun a c=>E (T (S (G (R q 1 c j fun a c=>E (T (S (S (G (R q 1 c j fun a c=>E (T ?_))))))))))))
  obtain ⟨ae,g,ak⟩:=bd d;refine X c f (fun e L a' w'=>∃ aa x,ae = .go aa∧h.le x∧Env a' 31 [(3,i_ aa.1)]∧Inv ab h [] x L w') ?_ ?_;rotate_left
  · rintro a w ⟨aa,x,rfl,a2,c,f⟩;have d:=Lg ak;refine T (S (G (R q 3 c j fun a c=>E (T (V ?_)))));cases d
    refine N (v:=_) c j ⟨_,_,_,j,f.nil,j,j⟩
  
  refine O (Q c f (fun e L n' a' w'=>∃ n i,whileL (law07_weighPairs.b0 k af) n' n=some ae∧h.le i∧Env a' 31 (sl e [0] [(3,i_ n.1),(4,i_ n.2)])∧Inv ab h [] i L w') _ ⟨_,h,g,rf,c.kp j,f⟩ ?_)
  rintro z a w ⟨n,i,g,o,c,f⟩;rcases z with _ | z
  · cases g
  obtain ⟨a5,d,g⟩:=Wh g;unfold law07_weighPairs.b0 at d;refine S (S ?_);obtain ⟨ad,d,al⟩:=bd d
  refine X c f (fun e L a' w'=>∃ l,i.le l∧Env a' 31 (sl e [0,3,4] [(12,.bool ad)])∧Inv ab h [] l L w') ?_ ?_
  · refine G (R q 5 c j fun a c=>?_);rcases Bo (decide (n.2 < (af.length:Int))) with m | m
    · replace d:=ct m d;have c:=c.tr (t:=9) j m;refine R q 3 c j fun a c=>E (T ?_);cases d;exact ⟨i,rf,c.kp j,f⟩
    replace d:=cf m d;have c:=c.tr (t:=9) j m;refine R q 3 c j fun a c=>E (T ?_);cases d;exact ⟨i,rf,c.kp j,f⟩
  rintro a w ⟨l,p,c,f⟩;have d:=al;refine T (Cc (b:=ad) c j (fun y=>?_) (fun y=>?_));rotate_left
  · replace d:=cf y d;refine Ex (Xe (Xe (Xh (T ?_))));cases d;obtain rfl:=Wb g;exact ⟨_,l,j,(o.t p),c.kp j,f⟩
  replace d:=ct y d
  refine K (T (S (O (Mx [] [11,12] (.step 0 0 (.step 1 0 (.step 2 0 (.step 3 0 (.step 4 0 (.step 5 1 (.step 6 0 (.step 7 0 (.step 8 0 (.step 9 0 (.step 10 1 (.step 11 3 (.step 12 3 (.step 13 0 (.step 14 0 .nil))))))))))))))) mixed (mixF_all (by kernel_rfl)) f (by decide) j fun w f hS=>H q 3 c j fun a c=>?_))))
  obtain ⟨u,s,d⟩:=bd d;obtain ⟨ay,a3,cs,ap,am,ai⟩:=Sa (ac.m (o.t p)) (Go s).1 (Go s).2;obtain rfl:=TPair.inv.1 am
  refine Dr c j j (I q ap j j j) j fun a c=>H q 1 c j fun a c=>Dd hS c j j (Rw fun _=>(Fg q ai 0 j j j j)) j fun a c=>H q 2 c j fun a c=>?_
  obtain ⟨az,a4,cs,aq,an,aj⟩:=Sa (ac.m (o.t p)) (Go s).1 (Go s).2;obtain rfl:=TPair.inv.1 an
  refine Dr c j j (I q aq j j j) j fun a c=>H q 1 c j fun a c=>Dd hS c j j (Rw fun _=>(Fg q aj 1 j j j j)) j fun a c=>Dl j (Bs ai_22 f c j j j j j fun a w a0 c f=>?_)
  have ao:RL l 1 ([u.Low,u.High].map D.str) _:=(Rc (rep_str.2 j) j (Rc (rep_str.2 j) j Rn));refine Dn (Dl j ?_)
  obtain ⟨ax,au,f,ah⟩:=(f.front 0).giveR (xs:=([u.Low,u.High]).map D.str) (by simp) ao;obtain ⟨a6,av,d⟩:=bd d
  refine J cl_63 f c j j ((law07_weighNames.ok k) av f.pass0 ah) j ?_;rintro a w _ ag _ ⟨rfl,rfl⟩ ar f c
  refine Dn (H q 2 c j fun a c=>Dz (xB (T (G (R q 3 c j fun a c=>E (T ?_))))));cases d
  exact ⟨z,Nat.lt_succ_self _,_,ag,g,(((o.t p).t au).t ar),c.kp j,f⟩

theorem cl_65:Callable Tryz.prog 65:=⟨_,Tryz.func65,by kernel_rfl,by kernel_rfl⟩

def law07_weighAll.C (s:(List TExpr)→Int→Option Int):Prop:=∀ {d g r},s d g=some r→∀ {c b e f},Inv c b [] b [] c→(Sl b e f 6 (d.map TExpr.d))→Calls Tryz.prog 65 #[.slice e d.length f,i_ g] c (Ret c b [] fun G' L' v=>L'=[]∧v=i_ r)

theorem cl_109:Callable Tryz.prog 109:=⟨_,Tryz.func109,by kernel_rfl,by kernel_rfl⟩

def law07_Weigh.C (s:TExpr→Int→Option Int):Prop:=∀ {e f r},s e f=some r→∀ {c b d},Inv c b [] b [] c→(Rep b e.d d)→Calls Tryz.prog 109 #[.agg ⟨d⟩,i_ f] c (Ret c b [] fun G' L' v=>L'=[]∧v=i_ r)

theorem cl_142:Callable Tryz.prog 142:=⟨_,Tryz.func142,by kernel_rfl,by kernel_rfl⟩

def law07_WeighQuery.C (s:TQuery→Int→Option Int):Prop:=∀ {e f r},s e f=some r→∀ {c b d},Inv c b [] b [] c→(Rep b e.d d)→Calls Tryz.prog 142 #[.agg ⟨d⟩,i_ f] c (Ret c b [] fun G' L' v=>L'=[]∧v=i_ r)

theorem cl_178:Callable Tryz.prog 178:=⟨_,Tryz.func178,by kernel_rfl,by kernel_rfl⟩

def law07_weighFrom.C (s:TFrom→Int→Option Int):Prop:=∀ {e f r},s e f=some r→∀ {c b d},Inv c b [] b [] c→(Rep b e.d d)→Calls Tryz.prog 178 #[.agg ⟨d⟩,i_ f] c (Ret c b [] fun G' L' v=>L'=[]∧v=i_ r)

theorem law07_weighAll.F_ok (k:Nat) (s_law07_weighAll:(List TExpr)→Int→Option Int) (s_law07_Weigh:TExpr→Int→Option Int) (s_law07_WeighQuery:TQuery→Int→Option Int) (s_law07_weighFrom:TFrom→Int→Option Int) (hs_law07_weighAll:law07_weighAll.C s_law07_weighAll) (hs_law07_Weigh:law07_Weigh.C s_law07_Weigh) (hs_law07_WeighQuery:law07_WeighQuery.C s_law07_WeighQuery) (hs_law07_weighFrom:law07_weighFrom.C s_law07_weighFrom):law07_weighAll.C (law07_weighAll.F k s_law07_weighAll s_law07_Weigh s_law07_WeighQuery s_law07_weighFrom):=by
  intro ad av r d z h aw ay f al
  unfold law07_weighAll.F at d
  refine Ci 27 Tryz.func65 j j j fun a c=>?_
  refine S (G (R q 1 c j fun a c=>E (T (S (G (R q 1 c j fun a c=>E (T (S (S (G (R q 1 c j fun a c=>E (T ?_))))))))))))
  obtain ⟨ac,g,an⟩:=bd d;refine X c f (fun e L a' w'=>∃ y o,ac = .go y∧h.le o∧Env a' 27 [(5,i_ y.1)]∧Inv z h [] o L w') ?_ ?_;rotate_left
  · rintro a w ⟨y,o,rfl,az,c,f⟩;have d:=Lg an;refine T (S (G (R q 3 c j fun a c=>E (T (V ?_)))));cases d;refine N (v:=_) c j ⟨_,_,_,j,f.nil,j,j⟩
  
  refine O (Q c f (fun e L n' a' w'=>∃ m i,whileL (law07_weighAll.b0 k s_law07_weighAll s_law07_Weigh s_law07_WeighQuery s_law07_weighFrom ad av) n' m=some ac∧h.le i∧Env a' 27 (sl e [0,1] [(5,i_ m.1),(6,i_ m.2)])∧Inv z h [] i L w') _ ⟨_,h,g,rf,c.kp j,f⟩ ?_)
  rintro x a w ⟨m,i,g,u,c,f⟩;rcases x with _ | x
  · cases g
  obtain ⟨a1,d,g⟩:=Wh g;unfold law07_weighAll.b0 at d;refine S (S ?_);obtain ⟨ab,d,ao⟩:=bd d
  refine X c f (fun e L a' w'=>∃ n,i.le n∧Env a' 27 (sl e [0,1,5,6] [(14,.bool ab)])∧Inv z h [] n L w') ?_ ?_
  · refine G (R q 5 c j fun a c=>?_);rcases Bo (decide (m.2 < (ad.length:Int))) with l | l
    · replace d:=ct l d;have c:=c.tr (t:=11) j l;refine R q 3 c j fun a c=>E (T ?_);cases d;exact ⟨i,rf,c.kp j,f⟩
    replace d:=cf l d;have c:=c.tr (t:=11) j l;refine R q 3 c j fun a c=>E (T ?_);cases d;exact ⟨i,rf,c.kp j,f⟩
  rintro a w ⟨n,s,c,f⟩;have d:=ao;refine T (Cc (b:=ab) c j (fun p=>?_) (fun p=>?_));rotate_left
  · replace d:=cf p d;refine Ex (Xe (Xe (Xh (T ?_))));cases d;obtain rfl:=Wb g;exact ⟨_,n,j,(u.t s),c.kp j,f⟩
  replace d:=ct p d;refine K (T (S (O (G (R q 3 c j fun a c=>?_)))));obtain ⟨a2,aa,d⟩:=bd d
  obtain ⟨ax,a0,cs,aq,ap,am⟩:=Sa (al.m (u.t s)) (Go aa).1 (Go aa).2;obtain ⟨ae,ah,af,ai,rfl,aj,ak⟩:=TExpr.inv.1 ap
  refine L f c j (I q aq j j j) j fun a c=>L f c j (Fg q am 0 j j j j) j fun a c=>R q 1 c j fun a c=>?_;obtain ⟨a3,au,d⟩:=bd d
  refine J cl_109 f c j j (hs_law07_Weigh au f.pass0 (TExpr.inv.2 ⟨ae,ah,af,ai,j,aj,ak⟩)) j ?_;rintro a w _ ag _ ⟨rfl,rfl⟩ ar f c
  refine R q 2 c j fun a c=>E (xB (T (G (R q 3 c j fun a c=>E (T ?_)))));cases d;exact ⟨x,Nat.lt_succ_self _,_,ag,g,((u.t s).t ar),c.kp j,f⟩

theorem law07_Weigh.F_ok (k:Nat) (s_law07_weighAll:(List TExpr)→Int→Option Int) (s_law07_Weigh:TExpr→Int→Option Int) (s_law07_WeighQuery:TQuery→Int→Option Int) (s_law07_weighFrom:TFrom→Int→Option Int) (hs_law07_weighAll:law07_weighAll.C s_law07_weighAll) (hs_law07_Weigh:law07_Weigh.C s_law07_Weigh) (hs_law07_WeighQuery:law07_WeighQuery.C s_law07_WeighQuery) (hs_law07_weighFrom:law07_weighFrom.C s_law07_weighFrom):law07_Weigh.C (law07_Weigh.F k s_law07_weighAll s_law07_Weigh s_law07_WeighQuery s_law07_weighFrom):=by
  intro z ao r d l g cn f b7
  unfold law07_Weigh.F at d
  obtain ⟨cg,cl,ch,cm,rfl,bm,bw⟩:=TExpr.inv.1 b7
  refine Ci 66 Tryz.func109 j j j fun a c=>?_
  refine S (G (s_box f c j j j j fun a w ck c f=>R q 1 c j fun a c=>E (T (S (S ?_)))));obtain ⟨aw,d,b2⟩:=bd d
  refine X c f (fun e L a' w'=>∃ n,g.le n∧Env a' 66 (sl e [1,2] [(21,.bool aw)])∧Inv l g [] n L w') ?_ ?_
  · refine G (R q 3 c j fun a c=>?_);rcases Bo (decide ((60:Int) < ao)) with x | x
    · replace d:=ct x d;have c:=c.tr (t:=10) j x;refine R q 11 c j fun a c=>E (T ?_);cases d;exact ⟨g,rf,c.kp j,f⟩
    replace d:=cf x d;have c:=c.tr (t:=10) j x;refine R q 1 c j fun a c=>L f c j (B q 0 j j j j) j fun a c=>R q 4 c j fun a c=>?_
    rcases Bo (decide ((1200:Int) < (z.S.size:Int))) with y | y
    · replace d:=ct y d;have c:=c.tr (t:=16) j y;refine R q 5 c j fun a c=>E (T ?_);cases d;exact ⟨g,rf,c.kp j,f⟩
    replace d:=cf y d;have c:=c.tr (t:=16) j y;refine R q 1 c j fun a c=>L f c j (B q 0 j j j j) j fun a c=>R q 3 c j fun a c=>E (T ?_)
    cases d;exact ⟨g,rf,c.kp j,f⟩
  rintro a w ⟨n,ar,c,f⟩;have d:=b2;refine T (Cc (b:=aw) c j (fun ah=>?_) (fun ah=>?_))
  · replace d:=ct ah d;refine S (G (R q 1 c j fun a c=>E (T (V (Xr ?_)))));cases d;refine N (v:=_) c j ⟨_,_,_,j,f.nil,j,j⟩
  replace d:=cf ah d;refine K (T (S (G (R q 1 c j fun a c=>E (T (S (S (G (R q 1 c j fun a c=>E (T ?_))))))))));obtain ⟨az,h,b0⟩:=bd d
  refine X c f (fun e L a' w'=>∃ ap o,az = .go ap∧n.le o∧Env a' 66 (sl e [1,2] [(5,i_ ap.1)])∧Inv l g [] o L w') ?_ ?_
  ·
    refine O (Q c f (fun e L n' a' w'=>∃ aa m,whileL (law07_Weigh.b1 k s_law07_weighAll s_law07_Weigh s_law07_WeighQuery s_law07_weighFrom z ao) n' aa=some az∧n.le m∧Env a' 66 (sl e [1,2] [(5,i_ aa.1),(6,i_ aa.2)])∧Inv l g [] m L w') _ ⟨_,n,h,rf,c.kp j,f⟩ ?_)
    rintro an a w ⟨aa,m,h,ai,c,f⟩;rcases an with _ | an
    · cases h
    obtain ⟨cu,d,h⟩:=Wh h;unfold law07_Weigh.b1 at d;refine S (S ?_);obtain ⟨ay,d,b5⟩:=bd d
    refine X c f (fun e L a' w'=>∃ ad,m.le ad∧Env a' 66 (sl e [1,2,5,6] [(30,.bool ay)])∧Inv l g [] ad L w') ?_ ?_
    · refine G (R q 2 c j fun a c=>L f c j (B q 0 j j j j) j fun a c=>R q 3 c j fun a c=>?_)
      rcases Bo (decide (aa.2 < (z.Kids.length:Int))) with u | u
      · replace d:=ct u d;have c:=c.tr (t:=27) j u;refine R q 3 c j fun a c=>E (T ?_);cases d;exact ⟨m,rf,c.kp j,f⟩
      replace d:=cf u d;have c:=c.tr (t:=27) j u;refine R q 3 c j fun a c=>E (T ?_);cases d;exact ⟨m,rf,c.kp j,f⟩
    rintro a w ⟨ad,al,c,f⟩;have d:=b5;refine T (Cc (b:=ay) c j (fun ag=>?_) (fun ag=>?_));rotate_left
    · replace d:=cf ag d;refine Ex (Xe (Xe (Xh (T ?_))));cases d;obtain rfl:=Wb h;exact ⟨_,ad,j,(ai.t al),c.kp j,f⟩
    replace d:=ct ag d;refine K (T (S (O (G (R q 2 c j fun a c=>L f c j (B q 0 j j j j) j fun a c=>R q 1 c j fun a c=>?_)))))
    obtain ⟨cx,av,d⟩:=bd d;obtain ⟨cj,cq,cs,b9,b6,bz⟩:=Sa (bm.m ((ar.t ai).t al)) (Go av).1 (Go av).2
    obtain ⟨a8,bk,a9,bl,rfl,bu,bv⟩:=TExpr.inv.1 b6
    refine L f c j (I q b9 j j j) j fun a c=>L f c j (Fg q bz 0 j j j j) j fun a c=>R q 2 c j fun a c=>?_;obtain ⟨cy,ce,d⟩:=bd d
    refine J cl_109 f c j j (hs_law07_Weigh ce f.pass0 (TExpr.inv.2 ⟨a8,bk,a9,bl,j,bu,bv⟩)) j ?_;rintro a w _ bb _ ⟨rfl,rfl⟩ cc f c
    refine R q 2 c j fun a c=>E (xB (T (G (R q 3 c j fun a c=>E (T ?_)))));cases d;exact ⟨an,Nat.lt_succ_self _,_,bb,h,((ai.t al).t cc),c.kp j,f⟩
  rintro a w ⟨ap,o,rfl,ca,c,f⟩;have d:=Lg b0;refine T (S (S (G (R q 1 c j fun a c=>E (T ?_)))));obtain ⟨a0,i,b1⟩:=bd d
  refine X c f (fun e L a' w'=>∃ aq ae,a0 = .go aq∧o.le ae∧Env a' 66 [(5,i_ aq.1)]∧Inv l g [] ae L w') ?_ ?_;rotate_left
  · rintro a w ⟨aq,ae,rfl,co,c,f⟩;have d:=Lg b1;refine T (S (G (R q 3 c j fun a c=>E (T (V ?_)))));cases d
    refine N (v:=_) c j ⟨_,_,_,j,f.nil,j,j⟩
  
  refine O (Q c f (fun e L n' a' w'=>∃ ab p,whileL (law07_Weigh.b0 k s_law07_weighAll s_law07_Weigh s_law07_WeighQuery s_law07_weighFrom z ao) n' ab=some a0∧o.le p∧Env a' 66 (sl e [1,2] [(5,i_ ab.1),(7,i_ ab.2)])∧Inv l g [] p L w') _ ⟨_,o,i,rf,c.kp j,f⟩ ?_)
  rintro am a w ⟨ab,p,i,aj,c,f⟩;rcases am with _ | am
  · cases i
  obtain ⟨cr,d,i⟩:=Wh i;unfold law07_Weigh.b0 at d;refine S (S ?_);obtain ⟨ax,d,b3⟩:=bd d
  refine X c f (fun e L a' w'=>∃ ac,p.le ac∧Env a' 66 (sl e [1,2,5,7] [(51,.bool ax)])∧Inv l g [] ac L w') ?_ ?_
  · refine G (R q 2 c j fun a c=>L f c j (B q 0 j j j j) j fun a c=>R q 3 c j fun a c=>?_);rcases Bo (decide (ab.2 < (z.Q.length:Int))) with s | s
    · replace d:=ct s d;have c:=c.tr (t:=48) j s;refine R q 3 c j fun a c=>E (T ?_);cases d;exact ⟨p,rf,c.kp j,f⟩
    replace d:=cf s d;have c:=c.tr (t:=48) j s;refine R q 3 c j fun a c=>E (T ?_);cases d;exact ⟨p,rf,c.kp j,f⟩
  rintro a w ⟨ac,ak,c,f⟩;have d:=b3;refine T (Cc (b:=ax) c j (fun af=>?_) (fun af=>?_));rotate_left
  · replace d:=cf af d;refine Ex (Xe (Xe (Xh (T ?_))));cases d;obtain rfl:=Wb i;exact ⟨_,ac,j,(aj.t ak),c.kp j,f⟩
  replace d:=ct af d;refine K (T (S (O (G (R q 2 c j fun a c=>L f c j (B q 0 j j j j) j fun a c=>R q 1 c j fun a c=>?_)))))
  obtain ⟨cv,au,d⟩:=bd d;obtain ⟨ci,cp,cs,b8,b4,bx⟩:=Sa (bw.m (((ar.t ca).t aj).t ak)) (Go au).1 (Go au).2
  obtain ⟨a1,bc,a2,be,a3,bf,a4,bg,a5,bh,a6,bi,a7,bj,rfl,bn,bo,bp,bq,br,bs,bt⟩:=TQuery.inv.1 b4
  refine L f c j (I q b8 j j j) j fun a c=>L f c j (Fg q bx 0 j j j j) j fun a c=>R q 2 c j fun a c=>?_;obtain ⟨cw,cd,d⟩:=bd d
  refine J cl_142 f c j j (hs_law07_WeighQuery cd f.pass0 (TQuery.inv.2 ⟨a1,bc,a2,be,a3,bf,a4,bg,a5,bh,a6,bi,a7,bj,j,bn,bo,bp,bq,br,bs,bt⟩)) j ?_
  rintro a w _ ba _ ⟨rfl,rfl⟩ cb f c;refine R q 2 c j fun a c=>E (xB (T (G (R q 3 c j fun a c=>E (T ?_)))));cases d
  exact ⟨am,Nat.lt_succ_self _,_,ba,i,((aj.t ak).t cb),c.kp j,f⟩

theorem law07_WeighQuery.F_ok (k:Nat) (s_law07_weighAll:(List TExpr)→Int→Option Int) (s_law07_Weigh:TExpr→Int→Option Int) (s_law07_WeighQuery:TQuery→Int→Option Int) (s_law07_weighFrom:TFrom→Int→Option Int) (hs_law07_weighAll:law07_weighAll.C s_law07_weighAll) (hs_law07_Weigh:law07_Weigh.C s_law07_Weigh) (hs_law07_WeighQuery:law07_WeighQuery.C s_law07_WeighQuery) (hs_law07_weighFrom:law07_weighFrom.C s_law07_weighFrom):law07_WeighQuery.C (law07_WeighQuery.F k s_law07_weighAll s_law07_Weigh s_law07_WeighQuery s_law07_weighFrom):=by
  intro m ag r d i g e5 f dq
  unfold law07_WeighQuery.F at d
  obtain ⟨eh,ez,em,e1,en,e2,ei,ew,ej,ex,ek,ey,el,e0,rfl,bh,c0,df,cw,cx,cy,cz⟩:=TQuery.inv.1 dq
  refine Ci 126 Tryz.func142 j j j fun a c=>?_
  
  refine S (G (s_box f c j j j j fun a w eq c f=>R q 1 c j fun a c=>E (T (S (S (G (R q 2 c j fun a c=>E (T (Cc (b:=decide ((60:Int) < ag)) c j (fun a0=>?_) (fun a0=>?_))))))))))
  · replace d:=ct a0 d;refine S (G (R q 1 c j fun a c=>E (T (V (Xr ?_)))));cases d;refine N (v:=_) c j ⟨_,_,_,j,f.nil,j,j⟩
  replace d:=cf a0 d;refine K (T (S (Cd mixed (by kernel_rfl) f (Y q 1 c j fun a c=>Z c j (B q 0 j j j j) j fun a c=>Y q 2 c j fun a c=>?_))))
  obtain ⟨fi,d9,d⟩:=bd d
  refine Qc cl_65 c j j (fun w f=>hs_law07_weighAll d9 f.pass0 df) (fun _ _ _ h=>h.2) j fun a c=>Y q 2 c j fun a c=>Z c j (B q 0 j j j j) j fun a c=>Y q 2 c j fun a c=>?_
  obtain ⟨fj,ea,d⟩:=bd d
  refine Qc cl_65 c j j (fun w f=>hs_law07_weighAll ea f.pass0 cw) (fun _ _ _ h=>h.2) j fun a c=>Y q 2 c j fun a c=>Z c j (B q 0 j j j j) j fun a c=>Y q 2 c j fun a c=>?_
  obtain ⟨fk,eb,d⟩:=bd d;refine Qc cl_65 c j j (fun w f=>hs_law07_weighAll eb f.pass0 cx) (fun _ _ _ h=>h.2) j fun a c=>Y q 2 c j fun a c=>Qe ?_;intro w f
  refine T (S (S (G (R q 1 c j fun a c=>E (T ?_)))));obtain ⟨bs,l,bi⟩:=bd d
  refine X c f (fun e L a' w'=>∃ bc u,bs = .go bc∧g.le u∧Env a' 126 (sl e [1,2] [(5,i_ bc.1)])∧Inv i g [] u L w') ?_ ?_
  ·
    refine O (Q c f (fun e L n' a' w'=>∃ ah s,whileL (law07_WeighQuery.b3 k s_law07_weighAll s_law07_Weigh s_law07_WeighQuery s_law07_weighFrom m ag) n' ah=some bs∧g.le s∧Env a' 126 (sl e [1,2] [(5,i_ ah.1),(6,i_ ah.2)])∧Inv i g [] s L w') _ ⟨_,g,l,rf,c.kp j,f⟩ ?_)
    rintro bb a w ⟨ah,s,l,ap,c,f⟩;rcases bb with _ | bb
    · cases l
    obtain ⟨fh,d,l⟩:=Wh l;unfold law07_WeighQuery.b3 at d;refine S (S ?_);obtain ⟨br,d,dx⟩:=bd d
    refine X c f (fun e L a' w'=>∃ ao,s.le ao∧Env a' 126 (sl e [1,2,5,6] [(38,.bool br)])∧Inv i g [] ao L w') ?_ ?_
    · refine G (R q 2 c j fun a c=>L f c j (B q 0 j j j j) j fun a c=>R q 3 c j fun a c=>?_)
      rcases Bo (decide (ah.2 < (m.Items.length:Int))) with af | af
      · replace d:=ct af d;have c:=c.tr (t:=35) j af;refine R q 3 c j fun a c=>E (T ?_);cases d;exact ⟨s,rf,c.kp j,f⟩
      replace d:=cf af d;have c:=c.tr (t:=35) j af;refine R q 3 c j fun a c=>E (T ?_);cases d;exact ⟨s,rf,c.kp j,f⟩
    rintro a w ⟨ao,aq,c,f⟩;have d:=dx;refine T (Cc (b:=br) c j (fun az=>?_) (fun az=>?_));rotate_left
    · replace d:=cf az d;refine Ex (Xe (Xe (Xh (T ?_))));cases d;obtain rfl:=Wb l;exact ⟨_,ao,j,(ap.t aq),c.kp j,f⟩
    replace d:=ct az d;refine K (T (S (O (S (G (R q 2 c j fun a c=>L f c j (B q 0 j j j j) j fun a c=>R q 1 c j fun a c=>?_))))))
    obtain ⟨eg,ar,d⟩:=bd d;obtain ⟨eu,fc,cs,d3,dy,dk⟩:=Sa (bh.m (ap.t aq)) (Go ar).1 (Go ar).2
    obtain ⟨b9,cu,ca,cv,rfl,dd,de⟩:=TItem.inv.1 dy
    refine L f c j (I q d3 j j j) j fun a c=>R q 1 c j fun a c=>L f c j (Fg q dk 0 j j j j) j fun a c=>R q 2 c j fun a c=>?_
    obtain ⟨fr,ef,d⟩:=bd d;refine J cl_109 f c j j (hs_law07_Weigh ef f.pass0 (TExpr.inv.2 ⟨b9,cu,ca,cv,j,dd,de⟩)) j ?_;rintro a w _ ce _ ⟨rfl,rfl⟩ bk f c
    refine R q 2 c j fun a c=>E (T (S (G (R q 1 c j fun a c=>L f c j (B q 0 j j j j) j fun a c=>R q 1 c j fun a c=>?_))))
    obtain ⟨ev,fd,cs,d4,dz,dl⟩:=Sa (bh.m ((ap.t aq).t bk)) (Go ar).1 (Go ar).2;obtain ⟨eo,e3,ep,e4,rfl,e6,e7⟩:=TItem.inv.1 dz
    refine L f c j (I q d4 j j j) j fun a c=>R q 1 c j fun a c=>L f c j (Fg q dl 6 j j j j) j fun a c=>R q 2 c j fun a c=>E (T (Cc (b:=decide ((1200:Int) < (eg.Name.size:Int))) c j (fun ay=>?_) (fun ay=>?_)))
    rotate_left
    · replace d:=cf ay d;refine K (xB (T (G (R q 3 c j fun a c=>E (T ?_)))));cases d;exact ⟨bb,Nat.lt_succ_self _,_,ce,l,((ap.t aq).t bk),c.kp j,f⟩
    replace d:=ct ay d;refine S (G (R q 1 c j fun a c=>E (T (V (Xb (Xr (Xr (Xb (Xr (Xr ?_))))))))));cases d;obtain rfl:=Wr l;have d:=Le bi;cases d
    refine N (v:=_) c j ⟨_,_,_,j,f.nil,j,j⟩
  rintro a w ⟨bc,u,rfl,a1,c,f⟩;have d:=Lg bi;refine T (S (S (G (R q 1 c j fun a c=>E (T ?_)))));obtain ⟨bt,n,dm⟩:=bd d
  refine X c f (fun e L a' w'=>∃ be y,bt = .go be∧u.le y∧Env a' 126 (sl e [1,2] [(5,i_ be.1)])∧Inv i g [] y L w') ?_ ?_
  ·
    refine O (Q c f (fun e L n' a' w'=>∃ ai x,whileL (law07_WeighQuery.b2 k s_law07_weighAll s_law07_Weigh s_law07_WeighQuery s_law07_weighFrom m ag) n' ai=some bt∧u.le x∧Env a' 126 (sl e [1,2] [(5,i_ ai.1),(7,i_ ai.2)])∧Inv i g [] x L w') _ ⟨_,u,n,rf,c.kp j,f⟩ ?_)
    rintro ba a w ⟨ai,x,n,a2,c,f⟩;rcases ba with _ | ba
    · cases n
    obtain ⟨fg,d,n⟩:=Wh n;unfold law07_WeighQuery.b2 at d;refine S (S ?_);obtain ⟨bq,d,dv⟩:=bd d
    refine X c f (fun e L a' w'=>∃ an,x.le an∧Env a' 126 (sl e [1,2,5,7] [(68,.bool bq)])∧Inv i g [] an L w') ?_ ?_
    · refine G (R q 2 c j fun a c=>L f c j (B q 0 j j j j) j fun a c=>R q 3 c j fun a c=>?_)
      rcases Bo (decide (ai.2 < (m.Order.length:Int))) with ae | ae
      · replace d:=ct ae d;have c:=c.tr (t:=65) j ae;refine R q 3 c j fun a c=>E (T ?_);cases d;exact ⟨x,rf,c.kp j,f⟩
      replace d:=cf ae d;have c:=c.tr (t:=65) j ae;refine R q 3 c j fun a c=>E (T ?_);cases d;exact ⟨x,rf,c.kp j,f⟩
    rintro a w ⟨an,a7,c,f⟩;have d:=dv;refine T (Cc (b:=bq) c j (fun ax=>?_) (fun ax=>?_));rotate_left
    · replace d:=cf ax d;refine Ex (Xe (Xe (Xh (T ?_))));cases d;obtain rfl:=Wb n;exact ⟨_,an,j,(a2.t a7),c.kp j,f⟩
    replace d:=ct ax d;refine K (T (S (O (G (R q 2 c j fun a c=>L f c j (B q 0 j j j j) j fun a c=>R q 1 c j fun a c=>?_)))))
    obtain ⟨fp,bn,d⟩:=bd d;obtain ⟨et,fb,cs,d2,dw,dj⟩:=Sa (cy.m ((a1.t a2).t a7)) (Go bn).1 (Go bn).2
    obtain ⟨b7,cq,b8,cr,rfl,db,dc⟩:=TKey.inv.1 dw
    refine L f c j (I q d2 j j j) j fun a c=>R q 1 c j fun a c=>L f c j (Fg q dj 0 j j j j) j fun a c=>R q 2 c j fun a c=>?_
    obtain ⟨fq,ee,d⟩:=bd d;refine J cl_109 f c j j (hs_law07_Weigh ee f.pass0 (TExpr.inv.2 ⟨b7,cq,b8,cr,j,db,dc⟩)) j ?_;rintro a w _ cd _ ⟨rfl,rfl⟩ d8 f c
    refine R q 2 c j fun a c=>E (xB (T (G (R q 3 c j fun a c=>E (T ?_)))));cases d;exact ⟨ba,Nat.lt_succ_self _,_,cd,n,((a2.t a7).t d8),c.kp j,f⟩
  rintro a w ⟨be,y,rfl,bj,c,f⟩;have d:=Lg dm;refine T (S (S (G (R q 1 c j fun a c=>E (T ?_)))));obtain ⟨bu,o,dn⟩:=bd d
  refine X c f (fun e L a' w'=>∃ bf aa,bu = .go bf∧y.le aa∧Env a' 126 (sl e [1,2] [(5,i_ bf.1)])∧Inv i g [] aa L w') ?_ ?_
  ·
    refine O (Q c f (fun e L n' a' w'=>∃ aj z,whileL (law07_WeighQuery.b1 k s_law07_weighAll s_law07_Weigh s_law07_WeighQuery s_law07_weighFrom m ag) n' aj=some bu∧y.le z∧Env a' 126 (sl e [1,2] [(5,i_ aj.1),(8,i_ aj.2)])∧Inv i g [] z L w') _ ⟨_,y,o,rf,c.kp j,f⟩ ?_)
    rintro a9 a w ⟨aj,z,o,a3,c,f⟩;rcases a9 with _ | a9
    · cases o
    obtain ⟨ff,d,o⟩:=Wh o;unfold law07_WeighQuery.b1 at d;refine S (S ?_);obtain ⟨bp,d,dt⟩:=bd d
    refine X c f (fun e L a' w'=>∃ am,z.le am∧Env a' 126 (sl e [1,2,5,8] [(90,.bool bp)])∧Inv i g [] am L w') ?_ ?_
    · refine G (R q 2 c j fun a c=>L f c j (B q 0 j j j j) j fun a c=>R q 3 c j fun a c=>?_)
      rcases Bo (decide (aj.2 < (m.From.length:Int))) with ad | ad
      · replace d:=ct ad d;have c:=c.tr (t:=87) j ad;refine R q 3 c j fun a c=>E (T ?_);cases d;exact ⟨z,rf,c.kp j,f⟩
      replace d:=cf ad d;have c:=c.tr (t:=87) j ad;refine R q 3 c j fun a c=>E (T ?_);cases d;exact ⟨z,rf,c.kp j,f⟩
    rintro a w ⟨am,a6,c,f⟩;have d:=dt;refine T (Cc (b:=bp) c j (fun aw=>?_) (fun aw=>?_));rotate_left
    · replace d:=cf aw d;refine Ex (Xe (Xe (Xh (T ?_))));cases d;obtain rfl:=Wb o;exact ⟨_,am,j,(a3.t a6),c.kp j,f⟩
    replace d:=ct aw d;refine K (T (S (O (G (R q 2 c j fun a c=>L f c j (B q 0 j j j j) j fun a c=>R q 1 c j fun a c=>?_)))))
    obtain ⟨fn,bm,d⟩:=bd d;obtain ⟨es,fa,cs,d1,du,dh⟩:=Sa (c0.m (((a1.t bj).t a3).t a6)) (Go bm).1 (Go bm).2
    obtain ⟨b4,cn,b5,co,b6,cp,rfl,c8,c9,da⟩:=TFrom.inv.1 du
    refine L f c j (I q d1 j j j) j fun a c=>L f c j (Fg q dh 0 j j j j) j fun a c=>R q 2 c j fun a c=>?_;obtain ⟨fo,ed,d⟩:=bd d
    refine J cl_178 f c j j (hs_law07_weighFrom ed f.pass0 (TFrom.inv.2 ⟨b4,cn,b5,co,b6,cp,j,c8,c9,da⟩)) j ?_;rintro a w _ cc _ ⟨rfl,rfl⟩ d7 f c
    refine R q 2 c j fun a c=>E (xB (T (G (R q 3 c j fun a c=>E (T ?_)))));cases d;exact ⟨a9,Nat.lt_succ_self _,_,cc,o,((a3.t a6).t d7),c.kp j,f⟩
  rintro a w ⟨bf,aa,rfl,d5,c,f⟩;have d:=Lg dn;refine T (S (S (G (R q 1 c j fun a c=>E (T ?_)))));obtain ⟨bv,p,dp⟩:=bd d
  refine X c f (fun e L a' w'=>∃ bg au,bv = .go bg∧aa.le au∧Env a' 126 [(5,i_ bg.1)]∧Inv i g [] au L w') ?_ ?_;rotate_left
  · rintro a w ⟨bg,au,rfl,e8,c,f⟩;have d:=Lg dp;refine T (S (G (R q 3 c j fun a c=>E (T (V ?_)))));cases d
    refine N (v:=_) c j ⟨_,_,_,j,f.nil,j,j⟩
  
  refine O (Q c f (fun e L n' a' w'=>∃ ak ab,whileL (law07_WeighQuery.b0 k s_law07_weighAll s_law07_Weigh s_law07_WeighQuery s_law07_weighFrom m ag) n' ak=some bv∧aa.le ab∧Env a' 126 (sl e [1,2] [(5,i_ ak.1),(9,i_ ak.2)])∧Inv i g [] ab L w') _ ⟨_,aa,p,rf,c.kp j,f⟩ ?_)
  rintro a8 a w ⟨ak,ab,p,a4,c,f⟩;rcases a8 with _ | a8
  · cases p
  obtain ⟨fe,d,p⟩:=Wh p;unfold law07_WeighQuery.b0 at d;refine S (S ?_);obtain ⟨bo,d,dr⟩:=bd d
  refine X c f (fun e L a' w'=>∃ al,ab.le al∧Env a' 126 (sl e [1,2,5,9] [(111,.bool bo)])∧Inv i g [] al L w') ?_ ?_
  · refine G (R q 2 c j fun a c=>L f c j (B q 0 j j j j) j fun a c=>R q 3 c j fun a c=>?_)
    rcases Bo (decide (ak.2 < (m.Kids.length:Int))) with ac | ac
    · replace d:=ct ac d;have c:=c.tr (t:=108) j ac;refine R q 3 c j fun a c=>E (T ?_);cases d;exact ⟨ab,rf,c.kp j,f⟩
    replace d:=cf ac d;have c:=c.tr (t:=108) j ac;refine R q 3 c j fun a c=>E (T ?_);cases d;exact ⟨ab,rf,c.kp j,f⟩
  rintro a w ⟨al,a5,c,f⟩;have d:=dr;refine T (Cc (b:=bo) c j (fun av=>?_) (fun av=>?_));rotate_left
  · replace d:=cf av d;refine Ex (Xe (Xe (Xh (T ?_))));cases d;obtain rfl:=Wb p;exact ⟨_,al,j,(a4.t a5),c.kp j,f⟩
  replace d:=ct av d;refine K (T (S (O (G (R q 2 c j fun a c=>L f c j (B q 0 j j j j) j fun a c=>R q 1 c j fun a c=>?_)))))
  obtain ⟨fl,bl,d⟩:=bd d;obtain ⟨er,e9,cs,d0,ds,dg⟩:=Sa (cz.m ((((a1.t bj).t d5).t a4).t a5)) (Go bl).1 (Go bl).2
  obtain ⟨bw,cg,bx,ch,bz,ci,b0,cj,b1,ck,b2,cl,b3,cm,rfl,c1,c2,c3,c4,c5,c6,c7⟩:=TQuery.inv.1 ds
  refine L f c j (I q d0 j j j) j fun a c=>L f c j (Fg q dg 0 j j j j) j fun a c=>R q 2 c j fun a c=>?_;obtain ⟨fm,ec,d⟩:=bd d
  refine J cl_142 f c j j (hs_law07_WeighQuery ec f.pass0 (TQuery.inv.2 ⟨bw,cg,bx,ch,bz,ci,b0,cj,b1,ck,b2,cl,b3,cm,j,c1,c2,c3,c4,c5,c6,c7⟩)) j ?_
  rintro a w _ cb _ ⟨rfl,rfl⟩ d6 f c;refine R q 2 c j fun a c=>E (xB (T (G (R q 3 c j fun a c=>E (T ?_)))));cases d
  exact ⟨a8,Nat.lt_succ_self _,_,cb,p,((a4.t a5).t d6),c.kp j,f⟩

theorem law07_weighFrom.F_ok (k:Nat) (s_law07_weighAll:(List TExpr)→Int→Option Int) (s_law07_Weigh:TExpr→Int→Option Int) (s_law07_WeighQuery:TQuery→Int→Option Int) (s_law07_weighFrom:TFrom→Int→Option Int) (hs_law07_weighAll:law07_weighAll.C s_law07_weighAll) (hs_law07_Weigh:law07_Weigh.C s_law07_Weigh) (hs_law07_WeighQuery:law07_WeighQuery.C s_law07_WeighQuery) (hs_law07_weighFrom:law07_weighFrom.C s_law07_weighFrom):law07_weighFrom.C (law07_weighFrom.F k s_law07_weighAll s_law07_Weigh s_law07_WeighQuery s_law07_weighFrom):=by
  intro y aq r d l g cy f b8
  unfold law07_weighFrom.F at d
  obtain ⟨cn,cv,co,cw,cp,cx,rfl,bq,b2,b3⟩:=TFrom.inv.1 b8
  refine Ci 72 Tryz.func178 j j j fun a c=>?_
  refine S (G (s_box f c j j j j fun a w cq c f=>R q 1 c j fun a c=>E (T (S (S ?_)))));obtain ⟨ay,d,b9⟩:=bd d
  refine X c f (fun e L a' w'=>∃ ad,g.le ad∧Env a' 72 (sl e [1,2] [(21,.bool ay)])∧Inv l g [] ad L w') ?_ ?_
  · refine G (R q 3 c j fun a c=>?_);rcases Bo (decide ((60:Int) < aq)) with u | u
    · replace d:=ct u d;have c:=c.tr (t:=10) j u;refine R q 11 c j fun a c=>E (T ?_);cases d;exact ⟨g,rf,c.kp j,f⟩
    replace d:=cf u d;have c:=c.tr (t:=10) j u;refine R q 1 c j fun a c=>L f c j (B q 0 j j j j) j fun a c=>R q 4 c j fun a c=>?_
    rcases Bo (decide ((1200:Int) < (y.Table.size:Int))) with x | x
    · replace d:=ct x d;have c:=c.tr (t:=16) j x;refine R q 5 c j fun a c=>E (T ?_);cases d;exact ⟨g,rf,c.kp j,f⟩
    replace d:=cf x d;have c:=c.tr (t:=16) j x;refine R q 1 c j fun a c=>L f c j (B q 0 j j j j) j fun a c=>R q 3 c j fun a c=>E (T ?_)
    cases d;exact ⟨g,rf,c.kp j,f⟩
  rintro a w ⟨ad,aj,c,f⟩;have d:=b9;refine T (Cc (b:=ay) c j (fun ai=>?_) (fun ai=>?_))
  · replace d:=ct ai d;refine S (G (R q 1 c j fun a c=>E (T (V (Xr ?_)))));cases d;refine N (v:=_) c j ⟨_,_,_,j,f.nil,j,j⟩
  replace d:=cf ai d;refine K (T (S (G (R q 1 c j fun a c=>L f c j (B q 0 j j j j) j fun a c=>R q 2 c j fun a c=>?_))))
  obtain ⟨c4,ck,d⟩:=bd d;refine J cl_65 f c j j (hs_law07_weighAll ck f.pass0 (b3.m aj)) j ?_;rintro a w _ ae _ ⟨rfl,rfl⟩ av f c
  refine R q 2 c j fun a c=>E (T (S (S (G (R q 1 c j fun a c=>E (T ?_))))));obtain ⟨a1,h,b6⟩:=bd d
  refine X c f (fun e L a' w'=>∃ ar n,a1 = .go ar∧ae.le n∧Env a' 72 (sl e [1,2] [(5,i_ ar.1)])∧Inv l g [] n L w') ?_ ?_
  ·
    refine O (Q c f (fun e L n' a' w'=>∃ z m,whileL (law07_weighFrom.b1 k s_law07_weighAll s_law07_Weigh s_law07_WeighQuery s_law07_weighFrom y aq) n' z=some a1∧ae.le m∧Env a' 72 (sl e [1,2] [(5,i_ z.1),(6,i_ z.2)])∧Inv l g [] m L w') _ ⟨_,ae,h,rf,c.kp j,f⟩ ?_)
    rintro ap a w ⟨z,m,h,ak,c,f⟩;rcases ap with _ | ap
    · cases h
    obtain ⟨c3,d,h⟩:=Wh h;unfold law07_weighFrom.b1 at d;refine S (S ?_);obtain ⟨a0,d,cc⟩:=bd d
    refine X c f (fun e L a' w'=>∃ ac,m.le ac∧Env a' 72 (sl e [1,2,5,6] [(36,.bool a0)])∧Inv l g [] ac L w') ?_ ?_
    · refine G (R q 2 c j fun a c=>L f c j (B q 0 j j j j) j fun a c=>R q 3 c j fun a c=>?_);rcases Bo (decide (z.2 < (y.Q.length:Int))) with s | s
      · replace d:=ct s d;have c:=c.tr (t:=33) j s;refine R q 3 c j fun a c=>E (T ?_);cases d;exact ⟨m,rf,c.kp j,f⟩
      replace d:=cf s d;have c:=c.tr (t:=33) j s;refine R q 3 c j fun a c=>E (T ?_);cases d;exact ⟨m,rf,c.kp j,f⟩
    rintro a w ⟨ac,an,c,f⟩;have d:=cc;refine T (Cc (b:=a0) c j (fun ah=>?_) (fun ah=>?_));rotate_left
    · replace d:=cf ah d;refine Ex (Xe (Xe (Xh (T ?_))));cases d;obtain rfl:=Wb h;exact ⟨_,ac,j,(ak.t an),c.kp j,f⟩
    replace d:=ct ah d;refine K (T (S (O (G (R q 2 c j fun a c=>L f c j (B q 0 j j j j) j fun a c=>R q 1 c j fun a c=>?_)))))
    obtain ⟨c7,ax,d⟩:=bd d;obtain ⟨cu,c1,cs,cg,cd,b5⟩:=Sa (bq.m (((aj.t av).t ak).t an)) (Go ax).1 (Go ax).2
    obtain ⟨a6,bj,a7,bk,a8,bl,a9,bm,ba,bn,bb,bo,bc,bp,rfl,bu,bv,bw,bx,bz,b0,b1⟩:=TQuery.inv.1 cd
    refine L f c j (I q cg j j j) j fun a c=>L f c j (Fg q b5 0 j j j j) j fun a c=>R q 2 c j fun a c=>?_;obtain ⟨c8,cm,d⟩:=bd d
    refine J cl_142 f c j j (hs_law07_WeighQuery cm f.pass0 (TQuery.inv.2 ⟨a6,bj,a7,bk,a8,bl,a9,bm,ba,bn,bb,bo,bc,bp,j,bu,bv,bw,bx,bz,b0,b1⟩)) j ?_
    rintro a w _ bf _ ⟨rfl,rfl⟩ cj f c;refine R q 2 c j fun a c=>E (xB (T (G (R q 3 c j fun a c=>E (T ?_)))));cases d
    exact ⟨ap,Nat.lt_succ_self _,_,bf,h,((ak.t an).t cj),c.kp j,f⟩
  rintro a w ⟨ar,n,rfl,ch,c,f⟩;have d:=Lg b6;refine T (S (S (G (R q 1 c j fun a c=>E (T ?_)))));obtain ⟨a2,i,b7⟩:=bd d
  refine X c f (fun e L a' w'=>∃ au af,a2 = .go au∧n.le af∧Env a' 72 [(5,i_ au.1)]∧Inv l g [] af L w') ?_ ?_;rotate_left
  · rintro a w ⟨au,af,rfl,cz,c,f⟩;have d:=Lg b7;refine T (S (G (R q 3 c j fun a c=>E (T (V ?_)))));cases d
    refine N (v:=_) c j ⟨_,_,_,j,f.nil,j,j⟩
  
  refine O (Q c f (fun e L n' a' w'=>∃ aa o,whileL (law07_weighFrom.b0 k s_law07_weighAll s_law07_Weigh s_law07_WeighQuery s_law07_weighFrom y aq) n' aa=some a2∧n.le o∧Env a' 72 (sl e [1,2] [(5,i_ aa.1),(7,i_ aa.2)])∧Inv l g [] o L w') _ ⟨_,n,i,rf,c.kp j,f⟩ ?_)
  rintro ao a w ⟨aa,o,i,al,c,f⟩;rcases ao with _ | ao
  · cases i
  obtain ⟨c2,d,i⟩:=Wh i;unfold law07_weighFrom.b0 at d;refine S (S ?_);obtain ⟨az,d,ca⟩:=bd d
  refine X c f (fun e L a' w'=>∃ ab,o.le ab∧Env a' 72 (sl e [1,2,5,7] [(57,.bool az)])∧Inv l g [] ab L w') ?_ ?_
  · refine G (R q 2 c j fun a c=>L f c j (B q 0 j j j j) j fun a c=>R q 3 c j fun a c=>?_)
    rcases Bo (decide (aa.2 < (y.Kids.length:Int))) with p | p
    · replace d:=ct p d;have c:=c.tr (t:=54) j p;refine R q 3 c j fun a c=>E (T ?_);cases d;exact ⟨o,rf,c.kp j,f⟩
    replace d:=cf p d;have c:=c.tr (t:=54) j p;refine R q 3 c j fun a c=>E (T ?_);cases d;exact ⟨o,rf,c.kp j,f⟩
  rintro a w ⟨ab,am,c,f⟩;have d:=ca;refine T (Cc (b:=az) c j (fun ag=>?_) (fun ag=>?_));rotate_left
  · replace d:=cf ag d;refine Ex (Xe (Xe (Xh (T ?_))));cases d;obtain rfl:=Wb i;exact ⟨_,ab,j,(al.t am),c.kp j,f⟩
  replace d:=ct ag d;refine K (T (S (O (G (R q 2 c j fun a c=>L f c j (B q 0 j j j j) j fun a c=>R q 1 c j fun a c=>?_)))))
  obtain ⟨c5,aw,d⟩:=bd d;obtain ⟨cr,c0,cs,ce,cb,b4⟩:=Sa (b2.m ((((aj.t av).t ch).t al).t am)) (Go aw).1 (Go aw).2
  obtain ⟨a3,bg,a4,bh,a5,bi,rfl,br,bs,bt⟩:=TFrom.inv.1 cb
  refine L f c j (I q ce j j j) j fun a c=>L f c j (Fg q b4 0 j j j j) j fun a c=>R q 2 c j fun a c=>?_;obtain ⟨c6,cl,d⟩:=bd d
  refine J cl_178 f c j j (hs_law07_weighFrom cl f.pass0 (TFrom.inv.2 ⟨a3,bg,a4,bh,a5,bi,j,br,bs,bt⟩)) j ?_;rintro a w _ be _ ⟨rfl,rfl⟩ ci f c
  refine R q 2 c j fun a c=>E (xB (T (G (R q 3 c j fun a c=>E (T ?_)))));cases d;exact ⟨ao,Nat.lt_succ_self _,_,be,i,((al.t am).t ci),c.kp j,f⟩

theorem law07_weighAll.ok_all:∀ k,law07_weighAll.C (law07_weighAll k)∧law07_Weigh.C (law07_Weigh k)∧law07_WeighQuery.C (law07_WeighQuery k)∧law07_weighFrom.C (law07_weighFrom k)
  | 0=>⟨(by intro _ _ _ h;cases h),(by intro _ _ _ h;cases h),(by intro _ _ _ h;cases h),(by intro _ _ _ h;cases h)⟩
  | k + 1=>by
    have h:=law07_weighAll.ok_all k
    exact ⟨law07_weighAll.F_ok k (law07_weighAll k) (law07_Weigh k) (law07_WeighQuery k) (law07_weighFrom k) h.1 h.2.1 h.2.2.1 h.2.2.2,law07_Weigh.F_ok k (law07_weighAll k) (law07_Weigh k) (law07_WeighQuery k) (law07_weighFrom k) h.1 h.2.1 h.2.2.1 h.2.2.2,law07_WeighQuery.F_ok k (law07_weighAll k) (law07_Weigh k) (law07_WeighQuery k) (law07_weighFrom k) h.1 h.2.1 h.2.2.1 h.2.2.2,law07_weighFrom.F_ok k (law07_weighAll k) (law07_Weigh k) (law07_WeighQuery k) (law07_weighFrom k) h.1 h.2.1 h.2.2.1 h.2.2.2⟩

theorem law07_weighAll.ok (k:Nat):law07_weighAll.C (law07_weighAll k):=(law07_weighAll.ok_all k).1

theorem law07_Weigh.ok (k:Nat):law07_Weigh.C (law07_Weigh k):=(law07_weighAll.ok_all k).2.1

theorem law07_WeighQuery.ok (k:Nat):law07_WeighQuery.C (law07_WeighQuery k):=(law07_weighAll.ok_all k).2.2.1

theorem law07_weighFrom.ok (k:Nat):law07_weighFrom.C (law07_weighFrom k):=(law07_weighAll.ok_all k).2.2.2

theorem cl_37:Callable Tryz.prog 37:=⟨_,Tryz.func37,by kernel_rfl,by kernel_rfl⟩

def law07_WeighSchema.C (s:TSchema→Option Int):Prop:=∀ {e r},s e=some r→∀ {c b d},Inv c b [] b [] c→(Rep b e.d d)→Calls Tryz.prog 37 #[.agg ⟨d⟩] c (Ret c b [] fun G' L' v=>L'=[]∧v=i_ r)
end Go.Proofs.YtknhbphhdfknaaaGreatDoor
