/- The contracts: what the machine does at a call is what the plain function says. Written by mk.py. -/
import Derived.Test.YtlokemkpgnngjaaGreatDoorCtM
set_option linter.unusedVariables false
set_option linter.unusedSimpArgs false
set_option maxRecDepth 100000
namespace Go.Proofs.YtlokemkpgnngjaaGreatDoor
open Go.RowKit
theorem cl_12:Callable Tryz.prog 12:=⟨_,Tryz.func12,by kernel_rfl,by kernel_rfl⟩

def law10_weighNodes.C (s:(List TNode)→Int→Option Int):Prop:=∀ {d g r},s d g=some r→∀ {c b e f},Inv c b [] b [] c→(Sl b e f 5 (d.map TNode.d))→Calls Tryz.prog 12 #[.slice e d.length f,i_ g] c (Ret c b [] fun G' L' v=>L'=[]∧v=i_ r)

theorem cl_39:Callable Tryz.prog 39:=⟨_,Tryz.func39,by kernel_rfl,by kernel_rfl⟩

def law10_WeighPlan.C (s:TPlan→Int→Option Int):Prop:=∀ {e f r},s e f=some r→∀ {c b d},Inv c b [] b [] c→(Rep b e.d d)→Calls Tryz.prog 39 #[.agg ⟨d⟩,i_ f] c (Ret c b [] fun G' L' v=>L'=[]∧v=i_ r)

theorem law10_weighNodes.F_ok (k:Nat) (s_law10_weighNodes:(List TNode)→Int→Option Int) (s_law10_WeighPlan:TPlan→Int→Option Int) (hs_law10_weighNodes:law10_weighNodes.C s_law10_weighNodes) (hs_law10_WeighPlan:law10_WeighPlan.C s_law10_WeighPlan):law10_weighNodes.C (law10_weighNodes.F k s_law10_weighNodes s_law10_WeighPlan):=by
  intro ay ao r d o g b4 ck f ag
  unfold law10_weighNodes.F at d
  refine Ci 60 Tryz.func12 j j j fun a c=>?_
  refine S (G (R q 1 c j fun a c=>E (T (S (S (G (R q 2 c j fun a c=>E (T (Cc (b:=decide ((60:Int) < ao)) c j (fun aj=>?_) (fun aj=>?_))))))))))
  · replace d:=ct aj d;refine S (G (R q 1 c j fun a c=>E (T (V (Xr ?_)))));cases d;refine N (v:=_) c j ⟨_,_,_,j,f.nil,j,j⟩
  replace d:=cf aj d;refine K (T (S (G (R q 1 c j fun a c=>E (T (S (S (G (R q 1 c j fun a c=>E (T ?_))))))))));obtain ⟨aw,h,bn⟩:=bd d
  refine X c f (fun e L a' w'=>∃ ap ae,aw = .go ap∧g.le ae∧Env a' 60 [(5,i_ ap.1)]∧Inv o g [] ae L w') ?_ ?_;rotate_left
  · rintro a w ⟨ap,ae,rfl,cr,c,f⟩;have d:=Lg bn;refine T (S (G (R q 3 c j fun a c=>E (T (V ?_)))));cases d
    refine N (v:=_) c j ⟨_,_,_,j,f.nil,j,j⟩
  
  refine O (Q c f (fun e L n' a' w'=>∃ y l,whileL (law10_weighNodes.b0 k s_law10_weighNodes s_law10_WeighPlan ay ao) n' y=some aw∧g.le l∧Env a' 60 (sl e [0,1] [(5,i_ y.1),(6,i_ y.2)])∧Inv o g [] l L w') _ ⟨_,g,h,rf,c.kp j,f⟩ ?_)
  rintro am a w ⟨y,l,h,u,c,f⟩;rcases am with _ | am
  · cases h
  obtain ⟨cy,d,h⟩:=Wh h;unfold law10_weighNodes.b0 at d;refine S (S ?_);obtain ⟨au,d,bs⟩:=bd d
  refine X c f (fun e L a' w'=>∃ aa,l.le aa∧Env a' 60 (sl e [0,1,5,6] [(17,.bool au)])∧Inv o g [] aa L w') ?_ ?_
  · refine G (R q 5 c j fun a c=>?_);rcases Bo (decide (y.2 < (ay.length:Int))) with s | s
    · replace d:=ct s d;have c:=c.tr (t:=14) j s;refine R q 3 c j fun a c=>E (T ?_);cases d;exact ⟨l,rf,c.kp j,f⟩
    replace d:=cf s d;have c:=c.tr (t:=14) j s;refine R q 3 c j fun a c=>E (T ?_);cases d;exact ⟨l,rf,c.kp j,f⟩
  rintro a w ⟨aa,x,c,f⟩;have d:=bs;refine T (Cc (b:=au) c j (fun ai=>?_) (fun ai=>?_));rotate_left
  · replace d:=cf ai d;refine Ex (Xe (Xe (Xh (T ?_))));cases d;obtain rfl:=Wb h;exact ⟨_,aa,j,(u.t x),c.kp j,f⟩
  replace d:=ct ai d;refine K (T (S (O (S (G (R q 4 c j fun a c=>?_))))));obtain ⟨az,n,d⟩:=bd d
  obtain ⟨ce,cx,cs,bz,bt,bm⟩:=Sa (ag.m (u.t x)) (Go n).1 (Go n).2;obtain ⟨b9,cl,ca,cm,rfl,bi,cq⟩:=TNode.inv.1 bt
  refine L f c j (I q bz j j j) j fun a c=>R q 1 c j fun a c=>L f c j (Fg q bm 3 j j j j) j fun a c=>R q 2 c j fun a c=>?_
  obtain ⟨c2,b3,d⟩:=bd d;refine J cl_12 f c j j (hs_law10_weighNodes b3 f.pass0 bi) j ?_;rintro a w _ af _ ⟨rfl,rfl⟩ ak f c
  refine R q 2 c j fun a c=>E (T (S (G (R q 1 c j fun a c=>E (T ?_)))));obtain ⟨ax,i,bo⟩:=bd d
  refine X c f (fun e L a' w'=>∃ aq ab,ax = .go aq∧af.le ab∧Env a' 60 (sl e [0,1,6] [(5,i_ aq.1)])∧Inv o g [] ab L w') ?_ ?_;rotate_left
  · rintro a w ⟨aq,ab,rfl,b1,c,f⟩;have d:=Lg bo;refine xB (T (G (R q 3 c j fun a c=>E (T ?_))));cases d
    exact ⟨am,Nat.lt_succ_self _,_,ab,h,(((u.t x).t ak).t b1),c.kp j,f⟩
  
  refine O (Q c f (fun e L n' a' w'=>∃ z m,whileL (law10_weighNodes.b1 k s_law10_weighNodes s_law10_WeighPlan az ao) n' z=some ax∧af.le m∧Env a' 60 (sl e [0,1,6] [(5,i_ z.1),(7,i_ z.2)])∧Inv o g [] m L w') _ ⟨_,af,i,rf,c.kp j,f⟩ ?_)
  rintro an a w ⟨z,m,i,ad,c,f⟩;rcases an with _ | an
  · cases i
  obtain ⟨cz,d,i⟩:=Wh i;unfold law10_weighNodes.b1 at d;refine S (S ?_);obtain ⟨av,d,bu⟩:=bd d
  refine X c f (fun e L a' w'=>∃ ac,m.le ac∧Env a' 60 (sl e [0,1,5,6,7] [(42,.bool av)])∧Inv o g [] ac L w') ?_ ?_
  · refine G (R q 3 c j fun a c=>?_);obtain ⟨cd,cw,cs,bx,br,bl⟩:=Sa (ag.m (((u.t x).t ak).t ad)) (Go n).1 (Go n).2
    obtain ⟨b7,ci,b8,cj,rfl,co,cp⟩:=TNode.inv.1 br
    refine L f c j (I q bx j j j) j fun a c=>R q 1 c j fun a c=>L f c j (Fg q bl 4 j j j j) j fun a c=>R q 3 c j fun a c=>?_
    rcases Bo (decide (z.2 < (az.Plans.length:Int))) with p | p
    · replace d:=ct p d;have c:=c.tr (t:=39) j p;refine R q 3 c j fun a c=>E (T ?_);cases d;exact ⟨m,rf,c.kp j,f⟩
    replace d:=cf p d;have c:=c.tr (t:=39) j p;refine R q 3 c j fun a c=>E (T ?_);cases d;exact ⟨m,rf,c.kp j,f⟩
  rintro a w ⟨ac,al,c,f⟩;have d:=bu;refine T (Cc (b:=av) c j (fun ah=>?_) (fun ah=>?_));rotate_left
  · replace d:=cf ah d;refine Ex (Xe (Xe (Xh (T ?_))));cases d;obtain rfl:=Wb i;exact ⟨_,ac,j,(ad.t al),c.kp j,f⟩
  replace d:=ct ah d;refine K (T (S (O (G (R q 3 c j fun a c=>?_)))))
  obtain ⟨cb,cu,cs,bv,bp,bj⟩:=Sa (ag.m ((((u.t x).t ak).t ad).t al)) (Go n).1 (Go n).2
  obtain ⟨b5,cg,b6,ch,rfl,cn,bb⟩:=TNode.inv.1 bp
  refine L f c j (I q bv j j j) j fun a c=>R q 1 c j fun a c=>L f c j (Fg q bj 4 j j j j) j fun a c=>R q 1 c j fun a c=>?_
  obtain ⟨c0,ar,d⟩:=bd d;obtain ⟨cc,cv,cs,bw,bq,bk⟩:=Sa bb (Go ar).1 (Go ar).2
  obtain ⟨a0,a6,a1,a7,a2,a8,a3,a9,a4,ba,rfl,bc,be,bf,bg,bh⟩:=TPlan.inv.1 bq
  refine L f c j (I q bw j j j) j fun a c=>L f c j (Fg q bk 0 j j j j) j fun a c=>R q 2 c j fun a c=>?_;obtain ⟨c1,b2,d⟩:=bd d
  refine J cl_39 f c j j (hs_law10_WeighPlan b2 f.pass0 (TPlan.inv.2 ⟨a0,a6,a1,a7,a2,a8,a3,a9,a4,ba,j,bc,be,bf,bg,bh⟩)) j ?_
  rintro a w _ a5 _ ⟨rfl,rfl⟩ b0 f c;refine R q 2 c j fun a c=>E (xB (T (G (R q 3 c j fun a c=>E (T ?_)))));cases d
  exact ⟨an,Nat.lt_succ_self _,_,a5,i,((ad.t al).t b0),c.kp j,f⟩

theorem law10_WeighPlan.F_ok (k:Nat) (s_law10_weighNodes:(List TNode)→Int→Option Int) (s_law10_WeighPlan:TPlan→Int→Option Int) (hs_law10_weighNodes:law10_weighNodes.C s_law10_weighNodes) (hs_law10_WeighPlan:law10_WeighPlan.C s_law10_WeighPlan):law10_WeighPlan.C (law10_WeighPlan.F k s_law10_weighNodes s_law10_WeighPlan):=by
  intro y aq r d l g co f bt
  unfold law10_WeighPlan.F at d
  obtain ⟨b8,ck,cc,cm,cd,cn,b9,ci,ca,cj,rfl,bh,bo,cq,bg,cp⟩:=TPlan.inv.1 bt
  refine Ci 74 Tryz.func39 j j j fun a c=>?_
  refine S (G (s_box f c j j j j fun a w ce c f=>R q 1 c j fun a c=>E (T (S (S ?_)))));obtain ⟨ay,d,bu⟩:=bd d
  refine X c f (fun e L a' w'=>∃ ad,g.le ad∧Env a' 74 (sl e [1,2] [(21,.bool ay)])∧Inv l g [] ad L w') ?_ ?_
  · refine G (R q 3 c j fun a c=>?_);rcases Bo (decide ((60:Int) < aq)) with u | u
    · replace d:=ct u d;have c:=c.tr (t:=10) j u;refine R q 11 c j fun a c=>E (T ?_);cases d;exact ⟨g,rf,c.kp j,f⟩
    replace d:=cf u d;have c:=c.tr (t:=10) j u;refine R q 1 c j fun a c=>L f c j (B q 0 j j j j) j fun a c=>R q 4 c j fun a c=>?_
    rcases Bo (decide ((60:Int) < (y.Keys.length:Int))) with x | x
    · replace d:=ct x d;have c:=c.tr (t:=16) j x;refine R q 5 c j fun a c=>E (T ?_);cases d;exact ⟨g,rf,c.kp j,f⟩
    replace d:=cf x d;have c:=c.tr (t:=16) j x;refine R q 1 c j fun a c=>L f c j (B q 0 j j j j) j fun a c=>R q 3 c j fun a c=>E (T ?_)
    cases d;exact ⟨g,rf,c.kp j,f⟩
  rintro a w ⟨ad,ak,c,f⟩;have d:=bu;refine T (Cc (b:=ay) c j (fun ai=>?_) (fun ai=>?_))
  · replace d:=ct ai d;refine S (G (R q 1 c j fun a c=>E (T (V (Xr ?_)))));cases d;refine N (v:=_) c j ⟨_,_,_,j,f.nil,j,j⟩
  replace d:=cf ai d;refine K (T (S (G (R q 1 c j fun a c=>L f c j (B q 0 j j j j) j fun a c=>R q 2 c j fun a c=>?_))))
  obtain ⟨cy,b5,d⟩:=bd d;refine J cl_12 f c j j (hs_law10_weighNodes b5 f.pass0 (bo.m ak)) j ?_;rintro a w _ af _ ⟨rfl,rfl⟩ av f c
  refine R q 2 c j fun a c=>E (T (S (S (G (R q 1 c j fun a c=>E (T ?_))))));obtain ⟨a1,h,br⟩:=bd d
  refine X c f (fun e L a' w'=>∃ ar n,a1 = .go ar∧af.le n∧Env a' 74 (sl e [1,2] [(5,i_ ar.1)])∧Inv l g [] n L w') ?_ ?_
  ·
    refine O (Q c f (fun e L n' a' w'=>∃ z m,whileL (law10_WeighPlan.b1 k s_law10_weighNodes s_law10_WeighPlan y aq) n' z=some a1∧af.le m∧Env a' 74 (sl e [1,2] [(5,i_ z.1),(6,i_ z.2)])∧Inv l g [] m L w') _ ⟨_,af,h,rf,c.kp j,f⟩ ?_)
    rintro ap a w ⟨z,m,h,aj,c,f⟩;rcases ap with _ | ap
    · cases h
    obtain ⟨cx,d,h⟩:=Wh h;unfold law10_WeighPlan.b1 at d;refine S (S ?_);obtain ⟨a0,d,bx⟩:=bd d
    refine X c f (fun e L a' w'=>∃ ac,m.le ac∧Env a' 74 (sl e [1,2,5,6] [(36,.bool a0)])∧Inv l g [] ac L w') ?_ ?_
    · refine G (R q 2 c j fun a c=>L f c j (B q 0 j j j j) j fun a c=>R q 3 c j fun a c=>?_)
      rcases Bo (decide (z.2 < (y.Aggs.length:Int))) with s | s
      · replace d:=ct s d;have c:=c.tr (t:=33) j s;refine R q 3 c j fun a c=>E (T ?_);cases d;exact ⟨m,rf,c.kp j,f⟩
      replace d:=cf s d;have c:=c.tr (t:=33) j s;refine R q 3 c j fun a c=>E (T ?_);cases d;exact ⟨m,rf,c.kp j,f⟩
    rintro a w ⟨ac,an,c,f⟩;have d:=bx;refine T (Cc (b:=a0) c j (fun ah=>?_) (fun ah=>?_));rotate_left
    · replace d:=cf ah d;refine Ex (Xe (Xe (Xh (T ?_))));cases d;obtain rfl:=Wb h;exact ⟨_,ac,j,(aj.t an),c.kp j,f⟩
    replace d:=ct ah d;refine K (T (S (O (G (R q 3 c j fun a c=>L f c j (B q 0 j j j j) j fun a c=>R q 1 c j fun a c=>?_)))))
    obtain ⟨c1,ax,d⟩:=bd d;obtain ⟨ch,cv,cs,b1,bz,bq⟩:=Sa (bg.m (((ak.t av).t aj).t an)) (Go ax).1 (Go ax).2
    obtain ⟨cb,cl,rfl,bn⟩:=TGather.inv.1 bz
    refine L f c j (I q b1 j j j) j fun a c=>R q 1 c j fun a c=>L f c j (Fg q bq 1 j j j j) j fun a c=>R q 2 c j fun a c=>?_
    obtain ⟨c2,b7,d⟩:=bd d;refine J cl_12 f c j j (hs_law10_weighNodes b7 f.pass0 bn) j ?_;rintro a w _ a9 _ ⟨rfl,rfl⟩ b4 f c
    refine R q 2 c j fun a c=>E (xB (T (G (R q 3 c j fun a c=>E (T ?_)))));cases d;exact ⟨ap,Nat.lt_succ_self _,_,a9,h,((aj.t an).t b4),c.kp j,f⟩
  rintro a w ⟨ar,n,rfl,b2,c,f⟩;have d:=Lg br;refine T (S (S (G (R q 1 c j fun a c=>E (T ?_)))));obtain ⟨a2,i,bs⟩:=bd d
  refine X c f (fun e L a' w'=>∃ au ae,a2 = .go au∧n.le ae∧Env a' 74 [(5,i_ au.1)]∧Inv l g [] ae L w') ?_ ?_;rotate_left
  · rintro a w ⟨au,ae,rfl,cr,c,f⟩;have d:=Lg bs;refine T (S (G (R q 3 c j fun a c=>E (T (V ?_)))));cases d
    refine N (v:=_) c j ⟨_,_,_,j,f.nil,j,j⟩
  
  refine O (Q c f (fun e L n' a' w'=>∃ aa o,whileL (law10_WeighPlan.b0 k s_law10_weighNodes s_law10_WeighPlan y aq) n' aa=some a2∧n.le o∧Env a' 74 (sl e [1,2] [(5,i_ aa.1),(7,i_ aa.2)])∧Inv l g [] o L w') _ ⟨_,n,i,rf,c.kp j,f⟩ ?_)
  rintro ao a w ⟨aa,o,i,al,c,f⟩;rcases ao with _ | ao
  · cases i
  obtain ⟨cw,d,i⟩:=Wh i;unfold law10_WeighPlan.b0 at d;refine S (S ?_);obtain ⟨az,d,bv⟩:=bd d
  refine X c f (fun e L a' w'=>∃ ab,o.le ab∧Env a' 74 (sl e [1,2,5,7] [(59,.bool az)])∧Inv l g [] ab L w') ?_ ?_
  · refine G (R q 2 c j fun a c=>L f c j (B q 0 j j j j) j fun a c=>R q 3 c j fun a c=>?_)
    rcases Bo (decide (aa.2 < (y.Kids.length:Int))) with p | p
    · replace d:=ct p d;have c:=c.tr (t:=56) j p;refine R q 3 c j fun a c=>E (T ?_);cases d;exact ⟨o,rf,c.kp j,f⟩
    replace d:=cf p d;have c:=c.tr (t:=56) j p;refine R q 3 c j fun a c=>E (T ?_);cases d;exact ⟨o,rf,c.kp j,f⟩
  rintro a w ⟨ab,am,c,f⟩;have d:=bv;refine T (Cc (b:=az) c j (fun ag=>?_) (fun ag=>?_));rotate_left
  · replace d:=cf ag d;refine Ex (Xe (Xe (Xh (T ?_))));cases d;obtain rfl:=Wb i;exact ⟨_,ab,j,(al.t am),c.kp j,f⟩
  replace d:=ct ag d;refine K (T (S (O (G (R q 2 c j fun a c=>L f c j (B q 0 j j j j) j fun a c=>R q 1 c j fun a c=>?_)))))
  obtain ⟨cz,aw,d⟩:=bd d;obtain ⟨cg,cu,cs,b0,bw,bp⟩:=Sa (bh.m ((((ak.t av).t b2).t al).t am)) (Go aw).1 (Go aw).2
  obtain ⟨a3,ba,a4,bb,a5,bc,a6,be,a7,bf,rfl,bi,bj,bk,bl,bm⟩:=TPlan.inv.1 bw
  refine L f c j (I q b0 j j j) j fun a c=>L f c j (Fg q bp 0 j j j j) j fun a c=>R q 2 c j fun a c=>?_;obtain ⟨c0,b6,d⟩:=bd d
  refine J cl_39 f c j j (hs_law10_WeighPlan b6 f.pass0 (TPlan.inv.2 ⟨a3,ba,a4,bb,a5,bc,a6,be,a7,bf,j,bi,bj,bk,bl,bm⟩)) j ?_
  rintro a w _ a8 _ ⟨rfl,rfl⟩ b3 f c;refine R q 2 c j fun a c=>E (xB (T (G (R q 3 c j fun a c=>E (T ?_)))));cases d
  exact ⟨ao,Nat.lt_succ_self _,_,a8,i,((al.t am).t b3),c.kp j,f⟩

theorem law10_weighNodes.ok_all:∀ k,law10_weighNodes.C (law10_weighNodes k)∧law10_WeighPlan.C (law10_WeighPlan k)
  | 0=>⟨(by intro _ _ _ h;cases h),(by intro _ _ _ h;cases h)⟩
  | k + 1=>by
    have h:=law10_weighNodes.ok_all k
    exact ⟨law10_weighNodes.F_ok k (law10_weighNodes k) (law10_WeighPlan k) h.1 h.2,law10_WeighPlan.F_ok k (law10_weighNodes k) (law10_WeighPlan k) h.1 h.2⟩

theorem law10_weighNodes.ok (k:Nat):law10_weighNodes.C (law10_weighNodes k):=(law10_weighNodes.ok_all k).1

theorem law10_WeighPlan.ok (k:Nat):law10_WeighPlan.C (law10_WeighPlan k):=(law10_weighNodes.ok_all k).2

theorem cl_13:Callable Tryz.prog 13:=⟨_,Tryz.func13,by kernel_rfl,by kernel_rfl⟩

def law10_alive.C (s:Option Bool):Prop:=∀ {r},s=some r→∀ {b c},Inv b c [] c [] b→Calls Tryz.prog 13 #[] b (Ret b c [] fun G' L' v=>L'=[]∧v = .bool r)

theorem law10_alive.ok (k:Nat):law10_alive.C (law10_alive k):=by
  intro r b e d c
  cases b
  exact yes_ok Kg_0_ok j c

theorem cl_40:Callable Tryz.prog 40:=⟨_,Tryz.func40,by kernel_rfl,by kernel_rfl⟩

def algebra_walk.C (s:TNode→(TNode→Option Bool)→Option Bool):Prop:=∀ {f g r},s f g=some r→∀ {c b e d},Inv c b [] b [] c→(Rep b f.d e)→(Fk42 b d g)→Calls Tryz.prog 40 #[.agg ⟨e⟩,d] c (Ret c b [] fun G' L' v=>L'=[]∧v = .bool r)

theorem algebra_walk.F_ok (k:Nat) (s_algebra_walk:TNode→(TNode→Option Bool)→Option Bool) (hs_algebra_walk:algebra_walk.C s_algebra_walk):algebra_walk.C (algebra_walk.F k s_algebra_walk):=by
  intro ad a5 r f ag l bb a7 d ax ab
  unfold algebra_walk.F at f
  obtain ⟨ai,an,aj,ao,rfl,s,ar⟩:=TNode.inv.1 ax
  refine Ci 23 Tryz.func40 j j j fun a c=>?_
  
  refine S (G (s_box d c j j j j fun a w a8 c d=>R q 1 c j fun a c=>E (T (S (S (G (R q 1 c j fun a c=>L d c j (B q 0 j j j j) j fun a c=>?_)))))))
  obtain ⟨ah,a4,f⟩:=bd f
  refine Cv (S:=fun _ L' u=>L'=[]∧u = .bool ah) d c j j j (by exact ⟨_,ab _ _ a4 _ _ _ rf d.pass0 (TNode.inv.2 ⟨ai,an,aj,ao,j,s,ar⟩)⟩) (fun _ _ _ h=>h.2) j ?_
  intro a w d c;refine R q 1 c j fun a c=>E (T (Cc (b:=!ah) c j (fun y=>?_) (fun y=>?_)))
  · replace f:=ct y f;refine S (G (R q 1 c j fun a c=>E (T (V (Xr ?_)))));cases f;refine N (v:=_) c j ⟨_,_,_,j,d.nil,j,j⟩
  replace f:=cf y f;refine K (T (S (S (G (R q 1 c j fun a c=>L d c j (B q 0 j j j j) j fun a c=>R q 2 c j fun a c=>E (T ?_))))))
  obtain ⟨ac,i,aa⟩:=bd f;refine X c d (fun e L a' w'=>∃ af p,ac = .go af∧l.le p∧Env a' 23 []∧Inv ag l [] p [] w') ?_ ?_;rotate_left
  · rintro a w ⟨af,p,rfl,bc,c,d⟩;have f:=Lg aa;refine T (S (G (R q 1 c j fun a c=>E (T (V ?_)))));cases f;refine N (v:=_) c j ⟨_,_,_,j,d.nil,j,j⟩
  
  refine O (Q c d (fun e L n' a' w'=>∃ i73 g ae m,n'=List.length g∧i73≤ad.Kids.length∧ad.Kids.drop i73=g∧forL (algebra_walk.b0 k s_algebra_walk a5) i73 g ae=some ac∧l.le m∧Env a' 23 (sl e [1,12,13] [(14,i_ (i73:Int))])∧Inv ag l [] m [] w') _ ⟨0,_,_,l,j,Nat.zero_le _,j,i,rf,c.kp j,(d.dropN 1 j)⟩ ?_)
  rintro be a w ⟨i73,g,ae,m,rfl,a1,n,i,o,c,d⟩;rcases g with _ | ⟨bh,g⟩
  · obtain rfl:=Fn i;have z:=Do n a1;refine S (G (R q 1 c j fun a c=>E (T (S ?_))));have c:=c.tr (t:=15) j (decide_eq_false (by omega))
    refine Fa c j (Ex (Xe (Xe (Xh (T (⟨_,m,j,o,c.kp j,d⟩))))))
  obtain ⟨bg,f,i⟩:=Fs i;obtain ⟨a2,n,z⟩:=Dc n;unfold algebra_walk.b0 at f;refine S (G (R q 1 c j fun a c=>E (T (S ?_))))
  have c:=c.tr (t:=15) j (decide_eq_true (by omega));refine Tr c j (K (T (S (O (S (G ?_))))))
  obtain ⟨a9,bf,cs,az,ay,aw⟩:=Sa (s.m o) (Int.natCast_nonneg _) (natIdx a2);obtain ⟨ak,ap,al,aq,rfl,au,av⟩:=TNode.inv.1 ay
  refine L d c j (I q az j j j) j fun a c=>L d c j (Fg q aw 0 j j j j) j fun a c=>A d c j z_25 j j fun a w ba c d=>W q 0 d c j j j j j j j j j j fun a w c d=>E (T (S (G (L d c j (B q 0 j j j j) j fun a c=>R q 1 c j fun a c=>?_))))
  obtain ⟨a6,a3,f⟩:=bd f;refine J cl_40 d c j j (hs_algebra_walk a3 d.pass0 (TNode.inv.2 ⟨ak,ap,al,aq,j,au,av⟩) (ab.m o)) j ?_;rintro a w _ am _ ⟨rfl,rfl⟩ a0 d c
  refine R q 1 c j fun a c=>E (T (Cc (b:=!a6) c j (fun x=>?_) (fun x=>?_)))
  · replace f:=ct x f;refine S (G (R q 1 c j fun a c=>E (T (V (Xb (Xr (Xr (Xb (Xr (Xr ?_))))))))));cases f;obtain rfl:=Nr i;have f:=Le aa;cases f
    refine N (v:=_) c j ⟨_,_,_,j,d.nil,j,j⟩
  replace f:=cf x f;refine K (xB (T (G (R q 2 c j fun a c=>E (T ?_)))));cases f;have c:=c.setI (t:=14) j (Wc z (Ln s))
  exact ⟨g.length,Nat.lt_succ_self _,i73 + 1,g,_,am,j,z,n,i,(o.t a0),c.kp j,(d.dropN 1 j)⟩

theorem algebra_walk.ok_all:∀ k,algebra_walk.C (algebra_walk k)
  | 0=>by first | (intro _ _ _ h;cases h;done) | (intro h;cases h)
  | k + 1=>by
    have h:=@algebra_walk.ok_all k
    exact algebra_walk.F_ok k (algebra_walk k) @h

theorem algebra_walk.ok (k:Nat):algebra_walk.C (algebra_walk k):=@algebra_walk.ok_all k

theorem cl_42:Callable Tryz.prog 42:=⟨_,Tryz.func42,by kernel_rfl,by kernel_rfl⟩

def algebra_always.C (s:ByteArray→Option Bool):Prop:=∀ {d r},s d=some r→∀ {b c },Inv b c [] c [] b→Calls Tryz.prog 42 #[.string d] b (Ret b c [] fun G' L' v=>L'=[]∧v = .bool r)

theorem algebra_always.ok (k:Nat):algebra_always.C (algebra_always k):=by
  intro i r c m g  f
  unfold algebra_always at c
  refine Ci 14 Tryz.func42 j j j fun a d=>?_
  
  refine S (G (R q 1 d j fun a d=>E (T (S (S (G (R q 1 d j fun a d=>E (T (X d f (fun e L a' w'=>∃ ad,algebra_always.j0 k ad=some r∧∃ n,g.le n∧Env a' 14 []∧Inv m g [] n L w') ?_ ?_)))))))))
  rotate_left
  · rintro a w ⟨ad,c,n,aj,d,f⟩;unfold algebra_always.j0 at c;refine T (S (G (R q 1 d j fun a d=>E (T (V ?_)))));cases c
    refine N (v:=_) d j ⟨_,_,_,j,f.nil,j,j⟩
  refine O (S (X d f (fun e L a' w'=>∃ ae,algebra_always.j1 k ae=some r∧∃ o,g.le o∧Env a' 14 []∧Inv m g [] o L w') ?_ ?_));rotate_left
  · rintro a w ⟨ae,c,o,ak,d,f⟩;unfold algebra_always.j1 at c;refine T (S (S (G (R q 1 d j fun a d=>E (T (V (Xr (Xb (Xr (Xr ?_))))))))));cases c
    refine N (v:=_) d j ⟨_,_,_,j,f.nil,j,j⟩
  refine O (O (S (S (S (S (G (R q 2 d j fun a d=>E (T ?_))))))));obtain ⟨af,c,ai⟩:=bd c
  refine X d f (fun e L a' w'=>∃ h,g.le h∧Env a' 14 (sl e [3] [(4,.bool af)])∧Inv m g [] h L w') ?_ ?_
  · refine Cc (b:=decide (i=(⟨#[111,114]⟩:ByteArray))) d j (fun aa=>?_) (fun aa=>?_)
    · replace c:=ct aa c;refine K (T ?_);cases c;exact ⟨g,rf,d.kp j,f⟩
    replace c:=cf aa c;refine S (G (R q 2 d j fun a d=>E (T (Cc (b:=decide (i=(⟨#[97,110,100]⟩:ByteArray))) d j (fun z=>?_) (fun z=>?_)))))
    · replace c:=ct z c;refine K (T ?_);cases c;exact ⟨g,rf,d.kp j,f⟩
    replace c:=cf z c;refine S (G (R q 2 d j fun a d=>E (T (Cc (b:=decide (i=(⟨#[61]⟩:ByteArray))) d j (fun y=>?_) (fun y=>?_)))))
    · replace c:=ct y c;refine K (T ?_);cases c;exact ⟨g,rf,d.kp j,f⟩
    replace c:=cf y c;refine G (R q 2 d j fun a d=>E (T ?_));cases c;exact ⟨g,rf,d.kp j,f⟩
  rintro a w ⟨h,ab,d,f⟩;have c:=ai;refine T (Cc (b:=af) d j (fun x=>?_) (fun x=>?_))
  · replace c:=ct x c;refine Ex (Xe (Xe (Xh (xB (T (⟨_,c,h,ab,d.kp j,f⟩))))))
  replace c:=cf x c;refine K (T (S (S (G (R q 2 d j fun a d=>E (T ?_))))));obtain ⟨ag,c,ah⟩:=bd c
  refine X d f (fun e L a' w'=>∃ l,h.le l∧Env a' 14 [(9,.bool ag)]∧Inv m g [] l L w') ?_ ?_;rotate_left
  · rintro a w ⟨l,ac,d,f⟩;have c:=ah;refine T (Cc (b:=ag) d j (fun p=>?_) (fun p=>?_))
    · replace c:=ct p c;refine Ex (Xe (Xm j (Xh (T (⟨_,c,l,(ab.t ac),d.kp j,f⟩)))))
    replace c:=cf p c;refine K (T (Ex (Xm j (Xm j (Xe (Xe (Xh (T (⟨_,c,l,(ab.t ac),d.kp j,f⟩)))))))))
  refine Cc (b:=decide (i=(⟨#[60]⟩:ByteArray))) d j (fun u=>?_) (fun u=>?_)
  · replace c:=ct u c;refine K (T ?_);cases c;exact ⟨h,rf,d.kp j,f⟩
  replace c:=cf u c;refine S (G (R q 2 d j fun a d=>E (T (Cc (b:=decide (i=(⟨#[60,61]⟩:ByteArray))) d j (fun t=>?_) (fun t=>?_)))))
  · replace c:=ct t c;refine K (T ?_);cases c;exact ⟨h,rf,d.kp j,f⟩
  replace c:=cf t c;refine S (G (R q 2 d j fun a d=>E (T (Cc (b:=decide (i=(⟨#[62]⟩:ByteArray))) d j (fun s=>?_) (fun s=>?_)))))
  · replace c:=ct s c;refine K (T ?_);cases c;exact ⟨h,rf,d.kp j,f⟩
  replace c:=cf s c;refine G (R q 2 d j fun a d=>E (T ?_));cases c;exact ⟨h,rf,d.kp j,f⟩

theorem cl_41:Callable Tryz.prog 41:=⟨_,Tryz.func41,by kernel_rfl,by kernel_rfl⟩

def algebra_Total_1.C (s:TNode→Option Bool):Prop:=∀ {e r},s e=some r→∀ {c b d},Inv c b [] b [] c→(Rep b e.d d)→Calls Tryz.prog 41 #[.agg ⟨d⟩] c (Ret c b [] fun G' L' v=>L'=[]∧v = .bool r)

theorem algebra_Total_1.ok (k:Nat):algebra_Total_1.C (algebra_Total_1 k):=by
  intro i r d m g av f al
  unfold algebra_Total_1 at d
  obtain ⟨an,ar,ao,au,rfl,aw,ax⟩:=TNode.inv.1 al
  refine Ci 21 Tryz.func41 j j j fun a c=>?_
  
  refine S (G (s_box f c j j j j fun a w aq c f=>R q 1 c j fun a c=>E (T (S (S (G (R q 1 c j fun a c=>L f c j (B q 0 j j j j) j fun a c=>E (T (X c f (fun e L a' w'=>∃ ai,algebra_Total_1.j0 k ai=some r∧∃ o,g.le o∧Env a' 21 []∧Inv m g [] o [] w') ?_ ?_)))))))))
  rotate_left
  · rintro a w ⟨ai,d,o,a0,c,f⟩;unfold algebra_Total_1.j0 at d;refine T (S (G (R q 1 c j fun a c=>E (T (V ?_)))));cases d
    refine N (v:=_) c j ⟨_,_,_,j,f.nil,j,j⟩
  refine O (S (O (S (X c f (fun e L a' w'=>∃ af,algebra_Total_1.j1 k af=some r∧∃ n,g.le n∧Env a' 21 []∧Inv m g [] n [] w') ?_ ?_))));rotate_left
  · rintro a w ⟨af,d,n,ay,c,f⟩;unfold algebra_Total_1.j1 at d;refine T (S (S (G (R q 1 c j fun a c=>E (T (V (Xr (Xb (Xr (Xb (Xr (Xr ?_))))))))))));cases d
    refine N (v:=_) c j ⟨_,_,_,j,f.nil,j,j⟩
  refine O (O (S (S (S (S (G (R q 2 c j fun a c=>E (T ?_))))))));obtain ⟨ag,d,aj⟩:=bd d
  refine X c f (fun e L a' w'=>∃ h,g.le h∧Env a' 21 (sl e [1,4] [(5,.bool ag)])∧Inv m g [] h L w') ?_ ?_
  · refine Cc (b:=decide (i.Kind=(1:Int))) c j (fun ac=>?_) (fun ac=>?_)
    · replace d:=ct ac d;refine K (T ?_);cases d;exact ⟨g,rf,c.kp j,f⟩
    replace d:=cf ac d;refine S (G (R q 2 c j fun a c=>E (T (Cc (b:=decide (i.Kind=(2:Int))) c j (fun ab=>?_) (fun ab=>?_)))))
    · replace d:=ct ab d;refine K (T ?_);cases d;exact ⟨g,rf,c.kp j,f⟩
    replace d:=cf ab d;refine S (G (R q 2 c j fun a c=>E (T (Cc (b:=decide (i.Kind=(3:Int))) c j (fun aa=>?_) (fun aa=>?_)))))
    · replace d:=ct aa d;refine K (T ?_);cases d;exact ⟨g,rf,c.kp j,f⟩
    replace d:=cf aa d;refine S (G (R q 2 c j fun a c=>E (T (Cc (b:=decide (i.Kind=(4:Int))) c j (fun z=>?_) (fun z=>?_)))))
    · replace d:=ct z d;refine K (T ?_);cases d;exact ⟨g,rf,c.kp j,f⟩
    replace d:=cf z d;refine S (G (R q 2 c j fun a c=>E (T (Cc (b:=decide (i.Kind=(5:Int))) c j (fun y=>?_) (fun y=>?_)))))
    · replace d:=ct y d;refine K (T ?_);cases d;exact ⟨g,rf,c.kp j,f⟩
    replace d:=cf y d;refine G (R q 2 c j fun a c=>E (T ?_));cases d;exact ⟨g,rf,c.kp j,f⟩
  rintro a w ⟨h,ad,c,f⟩;have d:=aj;refine T (Cc (b:=ag) c j (fun x=>?_) (fun x=>?_))
  · replace d:=ct x d;refine Ex (Xe (Xe (Xh (xB (T (⟨_,d,h,ad,c.kp j,(f.dropN 1 j)⟩))))))
  replace d:=cf x d;refine K (T (S (S (S (G (R q 2 c j fun a c=>E (T ?_)))))));obtain ⟨ah,d,ak⟩:=bd d
  refine X c f (fun e L a' w'=>∃ l,h.le l∧Env a' 21 (sl e [1,4] [(12,.bool ah)])∧Inv m g [] l L w') ?_ ?_
  · refine Cc (b:=decide (i.Kind=(8:Int))) c j (fun u=>?_) (fun u=>?_)
    · replace d:=ct u d;refine K (T ?_);cases d;exact ⟨h,rf,c.kp j,f⟩
    replace d:=cf u d;refine S (G (R q 2 c j fun a c=>E (T (Cc (b:=decide (i.Kind=(9:Int))) c j (fun t=>?_) (fun t=>?_)))))
    · replace d:=ct t d;refine K (T ?_);cases d;exact ⟨h,rf,c.kp j,f⟩
    replace d:=cf t d;refine G (R q 2 c j fun a c=>E (T ?_));cases d;exact ⟨h,rf,c.kp j,f⟩
  rintro a w ⟨l,ae,c,f⟩;have d:=ak;refine T (Cc (b:=ah) c j (fun s=>?_) (fun s=>?_))
  · replace d:=ct s d;refine Ex (Xe (Xe (Xm j (Xh (T (⟨_,d,l,(ad.t ae),c.kp j,(f.dropN 1 j)⟩))))))
  replace d:=cf s d;refine K (T (S (G (R q 2 c j fun a c=>E (T (Cc (b:=decide (i.Kind=(10:Int))) c j (fun p=>?_) (fun p=>?_)))))));rotate_left
  · replace d:=cf p d;refine K (T (Ex (Xm j (Xm j (Xe (Xe (Xm j (Xe (Xh (T (⟨_,d,l,(ad.t ae),c.kp j,(f.dropN 1 j)⟩)))))))))))
  replace d:=ct p d;refine Ex (Xe (Xm j (Xm j (Xe (Xe (Xh (T (S (S (G (R q 1 c j fun a c=>L f c j (B q 0 j j j j) j fun a c=>?_)))))))))))
  obtain ⟨a1,am,d⟩:=bd d;refine J cl_42 f c j j ((algebra_always.ok k) am f.pass0 ) j ?_;rintro a w _ ap _ ⟨rfl,rfl⟩ az f c
  refine R q 1 c j fun a c=>E (T (V (Xr (Xb (Xr (Xr ?_))))));cases d;refine N (v:=_) c j ⟨_,_,_,j,f.nil,j,j⟩

theorem cl_14:Callable Tryz.prog 14:=⟨_,Tryz.func14,by kernel_rfl,by kernel_rfl⟩

def algebra_Total.C (s:TNode→Option Bool):Prop:=∀ {e r},s e=some r→∀ {c b d},Inv c b [] b [] c→(Rep b e.d d)→Calls Tryz.prog 14 #[.agg ⟨d⟩] c (Ret c b [] fun G' L' v=>L'=[]∧v = .bool r)

theorem algebra_Total.ok (k:Nat):algebra_Total.C (algebra_Total k):=by
  intro z r d aa p x c n
  unfold algebra_Total at d
  obtain ⟨e,g,f,h,rfl,i,l⟩:=TNode.inv.1 n
  refine Ci 5 Tryz.func14 j j j fun a b=>?_
  refine S (G (s_box c b j j j j fun a w t b c=>R q 1 b j fun a b=>E (T (S (G (L c b j (B q 0 j j j j) j fun a b=>?_))))))
  obtain ⟨ab,o,d⟩:=bd d
  refine J cl_40 c b j j ((algebra_walk.ok k) o c.pass0 (TNode.inv.2 ⟨e,g,f,h,j,i,l⟩) (by intro x0_ r_ hr_ w_ H_ u hle_ hI_ m;exact ⟨41,[],j,cl_41,(algebra_Total_1.ok k) hr_ hI_ m⟩)) j ?_
  rintro a w _ s _ ⟨rfl,rfl⟩ y c b;refine R q 1 b j fun a b=>E (T (V ?_));cases d;refine N (v:=_) b j ⟨_,_,_,j,c.nil,j,j⟩

theorem cl_43:Callable Tryz.prog 43:=⟨_,Tryz.func43,by kernel_rfl,by kernel_rfl⟩

def algebra_Uses_1.C (s:TNode→(List Int)→Option (Bool × (List Int))):Prop:=∀ {m c r},s m c=some r→∀ {d b g l e f h i},Inv d b g b [.blk e [.slice f c.length h] 26,.row (.slice f c.length h) 3 1 c.length i] d→(Rep b m.d l)→(RL b 1 (c.map di) i)→Calls Tryz.prog 43 #[.agg ⟨l⟩,(P e)] d (Ret d b g fun G' L' v=>∃ A0_0 c0_0 e0_0,L'=[.blk e [.slice A0_0 r.2.length c0_0] 26,.row (.slice A0_0 r.2.length c0_0) 3 1 r.2.length e0_0]∧v = .bool r.1∧RL G' 1 (r.2.map di) e0_0)

theorem algebra_Uses_1.ok (k:Nat):algebra_Uses_1.C (algebra_Uses_1 k):=by
  intro p aj r g ak h aa ar ab y ac t d ah u
  unfold algebra_Uses_1 at g
  obtain ⟨al,ap,am,aq,rfl,au,av⟩:=TNode.inv.1 ah
  refine Ci 12 Tryz.func43 j j j fun a c=>?_
  
  refine S (G (s_box d c j j j j fun a w an c d=>R q 1 c j fun a c=>E (T (S (S (G (R q 1 c j fun a c=>L d c j (B q 0 j j j j) j fun a c=>R q 1 c j fun a c=>E (T ?_))))))))
  obtain ⟨o,g,af⟩:=bd g
  refine X c d (fun e L a' w'=>∃ l i m n,h.le l∧Env a' 12 []∧Inv ak h aa l [.blk ab [.slice i o.length m] 26,.row (.slice i o.length m) 3 1 o.length n] w'∧RL l 1 (o.map di) n) ?_ ?_
  rotate_left
  · rintro a w ⟨l,i,m,n,aw,c,d,ae⟩;have g:=af;refine T (S (G (R q 1 c j fun a c=>E (T (V ?_)))));cases g
    refine N (v:=_) c j ⟨_,_,_,j,d,i,m,n,j,j,ae⟩
  refine Cc (b:=decide (p.Kind=(5:Int))) c j (fun s=>?_) (fun s=>?_);rotate_left
  · replace g:=cf s g;refine K (T ?_);cases g;exact ⟨h,y,ac,t,rf,c.kp j,(d.dropN 1 j),u⟩
  replace g:=ct s g
  refine G (L d c j (B q 1 j j j j) j fun a c=>R q 1 c j fun a c=>L d c j (B q 0 j j j j) j fun a c=>Bs ai_26 d c j j j j j fun a w ao c d=>?_)
  have x:RL h 1 ([p.N].map di) _:=(Rc (rep_int.2 j) j Rn);obtain ⟨_,ai,g⟩:=bd g
  refine Ao (f:=di) (xs:=aj) (ys:=[p.N]) ai_26 3 0 d c j j j x j j (Ll ai) j fun a w z ad c d=>?_;have ag:=Ra u x
  refine W q 2 d c j j j j j j j j j j fun a w c d=>E (T ?_);cases g;exact ⟨h,z,ad,(t ++ [i_ p.N]),rf,c.kp j,(d.dropN 2 j),ag⟩

theorem cl_44:Callable Tryz.prog 44:=⟨_,Tryz.func44,by kernel_rfl,by kernel_rfl⟩

def slices_Sort_int_int.C (s:List Int→Option (List Int)):Prop:=∀ {b r},s b=some r→∀ {e d f A c cs},Inv e d f d [.row (.slice A b.length c) 3 1 b.length cs] e→RL d 1 (b.map di) cs→Calls Tryz.prog 44 #[.slice A b.length c] e (Ret e d f fun G' L' v=>∃ cs',L'=[.row (.slice A r.length c) 3 1 r.length cs']∧v = .tuple ⟨[]⟩∧RL G' 1 (r.map di) cs'∧b.length=r.length)

theorem slices_Sort_int_int.ok (k:Nat):slices_Sort_int_int.C (slices_Sort_int_int k):=by
  intro b r d h g f A c cs e hR
  exact sortC.c d e hR

theorem cl_45:Callable Tryz.prog 45:=⟨_,Tryz.func45,by kernel_rfl,by kernel_rfl⟩

def slices_Compact_int_int.C (s:List Int→Option (List Int)):Prop:=∀ {b r},s b=some r→∀ {e d f A c cs},Inv e d f d [.row (.slice A b.length c) 3 1 b.length cs] e→RL d 1 (b.map di) cs→Calls Tryz.prog 45 #[.slice A b.length c] e (Ret e d f fun G' L' v=>∃ A' c' cs',L'=[.row (.slice A' r.length c') 3 1 r.length cs']∧v = .slice A' r.length c'∧RL G' 1 (r.map di) cs')

theorem slices_Compact_int_int.ok (k:Nat):slices_Compact_int_int.C (slices_Compact_int_int k):=by
  intro b r d h g f A c cs e hR
  exact compactC.c d e hR

theorem cl_447:Callable Tryz.prog 40:=⟨_,Tryz.func40,by kernel_rfl,by kernel_rfl⟩

def algebra_walk_algebra_Uses_1.C (s:TNode→(List Int)→Option (Bool × (List Int))):Prop:=∀ {m c r},s m c=some r→∀ {d b g l e f h i},Inv d b g b [.blk e [.slice f c.length h] 26,.row (.slice f c.length h) 3 1 c.length i] d→(Rep b m.d l)→(RL b 1 (c.map di) i)→Calls Tryz.prog 40 #[.agg ⟨l⟩,.func (.func 43) #[] ⟨[(P e)]⟩] d (Ret d b g fun G' L' v=>∃ A0_0 c0_0 e0_0,L'=[.blk e [.slice A0_0 r.2.length c0_0] 26,.row (.slice A0_0 r.2.length c0_0) 3 1 r.2.length e0_0]∧v = .bool r.1∧RL G' 1 (r.2.map di) e0_0)

theorem algebra_walk_algebra_Uses_1.F_ok (k:Nat) (s_algebra_walk_algebra_Uses_1:TNode→(List Int)→Option (Bool × (List Int))) (hs_algebra_walk_algebra_Uses_1:algebra_walk_algebra_Uses_1.C s_algebra_walk_algebra_Uses_1):algebra_walk_algebra_Uses_1.C (algebra_walk_algebra_Uses_1.F k s_algebra_walk_algebra_Uses_1):=by
  intro ax b1 r f ay al ak bw ab bq bu bv d bg bc
  unfold algebra_walk_algebra_Uses_1.F at f
  obtain ⟨az,a6,a2,a7,rfl,ac,ba⟩:=TNode.inv.1 bg
  refine Ci 23 Tryz.func40 j j j fun a c=>?_
  
  refine S (G (s_box d c j j j j fun a w br c d=>R q 1 c j fun a c=>E (T (S (S (G (R q 1 c j fun a c=>L d c j (B q 0 j j j j) j fun a c=>?_)))))))
  have d:=d.pick [1,2,0] (by decide) j;obtain ⟨bp,bn,f⟩:=bd f
  refine s_callNV 2 (cap:=[(P ab)]) cl_43 d c j j j (fun ad=>(algebra_Uses_1.ok k) bn ad (TNode.inv.2 ⟨az,a6,a2,a7,j,ac,ba⟩) bc) j ?_
  rintro a w _ aa _ ⟨aj,an,ap,rfl,rfl,av⟩ bj d c;refine R q 1 c j fun a c=>E (T (Cc (b:=!bp.1) c j (fun af=>?_) (fun af=>?_)))
  · replace f:=ct af f;refine S (G (R q 1 c j fun a c=>E (T (V (Xr ?_)))));cases f
    refine N (v:=_) c j ⟨_,_,_,j,(d.pick [0,1] (by decide) j),aj,an,ap,j,j,av⟩
  replace f:=cf af f;refine K (T (S (S (G (R q 1 c j fun a c=>L d c j (B q 2 j j j j) j fun a c=>R q 2 c j fun a c=>E (T ?_))))))
  obtain ⟨aw,h,aq⟩:=bd f
  refine X c d (fun e L a' w'=>∃ l p o u y,aw = .go l∧aa.le p∧Env a' 23 []∧Inv ay al ak p [.blk ab [.slice o l.length u] 26,.row (.slice o l.length u) 3 1 l.length y] w'∧RL p 1 (l.map di) y) ?_ ?_
  rotate_left
  · rintro a w ⟨l,p,o,u,y,rfl,bx,c,d,be⟩;have f:=Lg aq;refine T (S (G (R q 1 c j fun a c=>E (T (V ?_)))));cases f
    refine N (v:=_) c j ⟨_,_,_,j,d,o,u,y,j,j,be⟩
  
  refine O (Q c d (fun e L n' a' w'=>∃ i156 g i m n s x,n'=List.length g∧i156≤ax.Kids.length∧ax.Kids.drop i156=g∧forL (algebra_walk_algebra_Uses_1.b0 k s_algebra_walk_algebra_Uses_1) i156 g i=some aw∧aa.le m∧Env a' 23 (sl e [1,12,13] [(14,i_ (i156:Int))])∧Inv ay al ak m [.blk ab [.slice n i.length s] 26,.row (.slice n i.length s) 3 1 i.length x] w'∧RL m 1 (i.map di) x) _ ⟨0,_,_,aa,aj,an,ap,j,Nat.zero_le _,j,h,rf,c.kp j,(d.pick [0,1] (by decide) j),av⟩ ?_)
  rintro bz a w ⟨i156,g,i,m,n,s,x,rfl,bk,z,h,ag,c,d,ar⟩;rcases g with _ | ⟨b3,g⟩
  · obtain rfl:=Fn h;have ah:=Do z bk;refine S (G (R q 1 c j fun a c=>E (T (S ?_))));have c:=c.tr (t:=15) j (decide_eq_false (by omega))
    refine Fa c j (Ex (Xe (Xe (Xh (T (⟨_,m,n,s,x,j,ag,c.kp j,d,ar⟩))))))
  obtain ⟨b2,f,h⟩:=Fs h;obtain ⟨bl,z,ah⟩:=Dc z;unfold algebra_walk_algebra_Uses_1.b0 at f;refine S (G (R q 1 c j fun a c=>E (T (S ?_))))
  have c:=c.tr (t:=15) j (decide_eq_true (by omega));refine Tr c j (K (T (S (O (S (G ?_))))))
  obtain ⟨bs,b0,cs,bh,bf,bb⟩:=Sa (ac.m (bj.t ag)) (Int.natCast_nonneg _) (natIdx bl);obtain ⟨a0,a4,a1,a5,rfl,a8,a9⟩:=TNode.inv.1 bf
  refine L d c j (I q bh j j j) j fun a c=>L d c j (Fg q bb 0 j j j j) j fun a c=>A d c j z_25 j j fun a w bt c d=>W q 0 d c j j j j j j j j j j fun a w c d=>E (T (S (G (L d c j (B q 0 j j j j) j fun a c=>R q 1 c j fun a c=>?_))))
  have d:=d.pick [1,2,0] (by decide) j;obtain ⟨bo,bm,f⟩:=bd f
  refine M 2 cl_447 d c j j (fun ad=>hs_algebra_walk_algebra_Uses_1 bm ad (TNode.inv.2 ⟨a0,a4,a1,a5,j,a8,a9⟩) ar) j ?_
  rintro a w _ a3 _ ⟨ai,am,ao,rfl,rfl,au⟩ bi d c;refine R q 1 c j fun a c=>E (T (Cc (b:=!bo.1) c j (fun ae=>?_) (fun ae=>?_)))
  · replace f:=ct ae f;refine S (G (R q 1 c j fun a c=>E (T (V (Xb (Xr (Xr (Xb (Xr (Xr ?_))))))))));cases f;obtain rfl:=Nr h;have f:=Le aq;cases f
    refine N (v:=_) c j ⟨_,_,_,j,(d.pick [0,1] (by decide) j),ai,am,ao,j,j,au⟩
  replace f:=cf ae f;refine K (xB (T (G (R q 2 c j fun a c=>E (T ?_)))));cases f;have c:=c.setI (t:=14) j (Wc ah (Ln ac))
  exact ⟨g.length,Nat.lt_succ_self _,i156 + 1,g,_,a3,ai,am,ao,j,ah,z,h,(ag.t bi),c.kp j,(d.pick [0,1] (by decide) j),au⟩

theorem algebra_walk_algebra_Uses_1.ok_all:∀ k,algebra_walk_algebra_Uses_1.C (algebra_walk_algebra_Uses_1 k)
  | 0=>by first | (intro _ _ _ h;cases h;done) | (intro h;cases h)
  | k + 1=>by
    have h:=@algebra_walk_algebra_Uses_1.ok_all k
    exact algebra_walk_algebra_Uses_1.F_ok k (algebra_walk_algebra_Uses_1 k) @h

theorem algebra_walk_algebra_Uses_1.ok (k:Nat):algebra_walk_algebra_Uses_1.C (algebra_walk_algebra_Uses_1 k):=@algebra_walk_algebra_Uses_1.ok_all k

theorem cl_15:Callable Tryz.prog 15:=⟨_,Tryz.func15,by kernel_rfl,by kernel_rfl⟩

def algebra_Uses.C (s:TNode→Option (List Int)):Prop:=∀ {g r},s g=some r→∀ {c b f},Inv c b [] b [] c→(Rep b g.d f)→Calls Tryz.prog 15 #[.agg ⟨f⟩] c (Ret c b [] fun G' L' v=>L'=[]∧∃ d e,v = .slice d r.length e∧Sl G' d e 1 (r.map di))

theorem algebra_Uses.ok (k:Nat):algebra_Uses.C (algebra_Uses k):=by
  intro ax r d ay l aq c aa
  unfold algebra_Uses at d
  obtain ⟨g,m,h,n,rfl,p,s⟩:=TNode.inv.1 aa
  refine Ci 11 Tryz.func15 j j j fun a b=>?_
  
  refine S (G (s_box c b j j j j fun a w al b c=>R q 1 b j fun a b=>E (T (S (G (A c b j z_26 j j fun a w ak b c=>E (T (S (G (L c b j (B q 1 j j j j) j fun a b=>L c b j (f_mkfn j) j fun a b=>?_))))))))))
  have c:=c.nilrow 3 1;have u:RL l 1 (([]:List Int).map di) []:=Rn;have c:=c.pick [1,0,2] (by decide) j;obtain ⟨az,ab,d⟩:=bd d
  refine M 2 cl_447 c b j j (fun e=>(algebra_walk_algebra_Uses_1.ok k) ab e (TNode.inv.2 ⟨g,m,h,n,j,p,s⟩) u) j ?_;rintro a w _ ag _ ⟨af,am,an,rfl,rfl,x⟩ ar c b
  refine E (T (S (G (L c b j (B q 0 j j j j) j fun a b=>?_))));have c:=c.pick [1,0,2] (by decide) j;obtain ⟨a0,ac,d⟩:=bd d
  refine M 1 cl_44 c b j j (fun e=>(slices_Sort_int_int.ok k) ac e x) j ?_;rintro a w _ ah _ ⟨ao,rfl,rfl,y,f⟩ au c b;rw [f] at c;try rw [f] at b
  refine E (T (S (G (L c b j (B q 1 j j j j) j fun a b=>?_))));obtain ⟨ae,ad,d⟩:=bd d
  refine M 1 cl_45 c b j j (fun e=>(slices_Compact_int_int.ok k) ad e y) j ?_;rintro a w _ ai _ ⟨i,o,ap,rfl,rfl,z⟩ av c b;refine R q 1 b j fun a b=>E (T ?_)
  obtain ⟨aj,aw,c,t⟩:=(c.front 0).giveR (xs:=ae.map di) (by simp) z;refine V ?_;cases d;refine N (v:=_) b j ⟨_,_,_,j,c.nil,j,i,o,j,t⟩

theorem cl_16:Callable Tryz.prog 16:=⟨_,Tryz.func16,by kernel_rfl,by kernel_rfl⟩

def law10_in.C (s:Int→(List Int)→Option Bool):Prop:=∀ {g d r},s g d=some r→∀ {c b e f},Inv c b [] b [] c→(Sl b e f 1 (d.map di))→Calls Tryz.prog 16 #[i_ g,.slice e d.length f] c (Ret c b [] fun G' L' v=>L'=[]∧v = .bool r)

theorem law10_in.ok (k:Nat):law10_in.C (law10_in k):=by
  intro z aa r d ad i ak am f u
  unfold law10_in at d
  refine Ci 17 Tryz.func16 j j j fun a c=>?_
  refine S (G (R q 1 c j fun a c=>E (T (S (S (G (R q 3 c j fun a c=>E (T ?_))))))));obtain ⟨y,h,x⟩:=bd d
  refine X c f (fun e L a' w'=>∃ ac n,y = .go ac∧i.le n∧Env a' 17 []∧Inv ad i [] n L w') ?_ ?_;rotate_left
  · rintro a w ⟨ac,n,rfl,an,c,f⟩;have d:=Lg x;refine T (S (G (R q 1 c j fun a c=>E (T (V ?_)))));cases d;refine N (v:=_) c j ⟨_,_,_,j,f.nil,j,j⟩
  
  refine O (Q c f (fun e L n' a' w'=>∃ i26 g ab l,n'=List.length g∧i26≤aa.length∧aa.drop i26=g∧forL (law10_in.b0 k z) i26 g ab=some y∧i.le l∧Env a' 17 (sl e [0,7,8] [(9,i_ (i26:Int))])∧Inv ad i [] l L w') _ ⟨0,_,_,i,j,Nat.zero_le _,j,h,rf,c.kp j,f⟩ ?_)
  rintro ao a w ⟨i26,g,ab,l,rfl,ah,m,h,p,c,f⟩;rcases g with _ | ⟨aj,g⟩
  · obtain rfl:=Fn h;have s:=Do m ah;refine S (G (R q 1 c j fun a c=>E (T (S ?_))));have c:=c.tr (t:=10) j (decide_eq_false (by omega))
    refine Fa c j (Ex (Xe (Xe (Xh (T (⟨_,l,j,p,c.kp j,f⟩))))))
  obtain ⟨aq,d,h⟩:=Fs h;obtain ⟨ai,m,s⟩:=Dc m;unfold law10_in.b0 at d;refine S (G (R q 1 c j fun a c=>E (T (S ?_))))
  have c:=c.tr (t:=10) j (decide_eq_true (by omega));refine Tr c j (K (T (S (O (S (G ?_))))))
  obtain ⟨al,ap,cs,ag,af,ae⟩:=Sa (u.m p) (Int.natCast_nonneg _) (natIdx ai);obtain rfl:=rep_int.1 af
  refine L f c j (I q ag j j j) j fun a c=>L f c j (Fg q ae 0 j j j j) j fun a c=>R q 1 c j fun a c=>E (T (S (G (R q 3 c j fun a c=>E (T (Cc (b:=decide (aj=z)) c j (fun o=>?_) (fun o=>?_)))))))
  rotate_left
  · replace d:=cf o d;refine K (xB (T (G (R q 2 c j fun a c=>E (T ?_)))));cases d;have c:=c.setI (t:=9) j (Wc s (Ln u))
    exact ⟨g.length,Nat.lt_succ_self _,i26 + 1,g,_,l,j,s,m,h,p,c.kp j,f⟩
  replace d:=ct o d;refine S (G (R q 1 c j fun a c=>E (T (V (Xb (Xr (Xr (Xb (Xr (Xr ?_))))))))));cases d;obtain rfl:=Nr h;have d:=Le x;cases d
  refine N (v:=_) c j ⟨_,_,_,j,f.nil,j,j⟩

theorem cl_4:Callable Tryz.prog 4:=⟨_,Tryz.func4,by kernel_rfl,by kernel_rfl⟩

def law10_AlgebraTotal.C (s:TNode→TNode→Option Bool):Prop:=∀ {f g r},s f g=some r→∀ {c b e d},Inv c b [] b [] c→(Rep b f.d e)→(Rep b g.d d)→Calls Tryz.prog 4 #[.agg ⟨e⟩,.agg ⟨d⟩] c (Ret c b [] fun G' L' v=>L'=[]∧v = .bool r)
end Go.Proofs.YtlokemkpgnngjaaGreatDoor
