/- The contracts: what the machine does at a call is what the plain function says. Written by mk.py. -/
import Derived.Test.YtknhbphhdfknaaaGreatDoorCgT6
import Derived.Test.YtknhbphhdfknaaaGreatDoorCgT7
set_option linter.unusedVariables false
set_option linter.unusedSimpArgs false
set_option maxRecDepth 100000
namespace Go.Proofs.YtknhbphhdfknaaaGreatDoor
open Go.RowKit
theorem ref08_Shape.F_ok (k:Nat) (s_ref08_Shape:TTable→TExpr→Int→Option Bool) (hs_ref08_Shape:ref08_Shape.C s_ref08_Shape):ref08_Shape.C (ref08_Shape.F k s_ref08_Shape):=by
  intro b5 i a4 r d ak l cb cc f bs bu
  unfold ref08_Shape.F at d
  obtain ⟨a7,bj,bc,bk,be,bl,rfl,ay,bp,bq⟩:=TTable.inv.1 bs
  obtain ⟨a8,bf,a9,bi,rfl,ap,bo⟩:=TExpr.inv.1 bu
  refine Ci 88 Tryz.func86 j j j fun a c=>?_
  refine S (G (s_box f c j j j j fun a w b9 c f=>s_box f c j j j j fun a w ca c f=>R q 1 c j fun a c=>E (T (S (S ?_)))));obtain ⟨a0,d,bv⟩:=bd d
  refine X c f (fun e L a' w'=>∃ g,l.le g∧Env a' 88 (sl e [2,3,4] [(23,.bool a0)])∧Inv ak l [] g L w') ?_ ?_
  · refine Cd mixed (by kernel_rfl) f (Y q 3 c j fun a c=>?_);rcases Bo (decide ((40:Int) < a4)) with ag | ag
    · replace d:=ct ag d;have c:=c.tr (t:=10) j ag;refine Y q 13 c j fun a c=>Qe ?_;intro w f;refine T ?_;cases d;exact ⟨l,rf,c.kp j,f⟩
    replace d:=cf ag d;have c:=c.tr (t:=10) j ag;refine Y q 1 c j fun a c=>Z c j (B q 0 j j j j) j fun a c=>Y q 4 c j fun a c=>?_
    rcases Bo (decide ((0:Int) < (i.Q.length:Int))) with ah | ah
    · replace d:=ct ah d;have c:=c.tr (t:=16) j ah;refine Y q 7 c j fun a c=>Qe ?_;intro w f;refine T ?_;cases d;exact ⟨l,rf,c.kp j,f⟩
    replace d:=cf ah d;have c:=c.tr (t:=16) j ah;refine Z c j (B q 0 j j j j) j fun a c=>?_;obtain ⟨cj,b4,d⟩:=bd d
    refine Qc cl_115 c j j (fun w f=>(ref08_kids.ok k) b4 f.pass0 (TExpr.inv.2 ⟨a8,bf,a9,bi,j,ap,bo⟩)) (fun _ _ _ h=>h.2) j fun a c=>Y q 1 c j fun a c=>Z c j (B q 0 j j j j) j fun a c=>Y q 3 c j fun a c=>Qe ?_
    intro w f;refine T ?_;cases d;exact ⟨l,rf,c.kp j,f⟩
  rintro a w ⟨g,ai,c,f⟩;have d:=bv;refine T (Cc (b:=a0) c j (fun av=>?_) (fun av=>?_))
  · replace d:=ct av d;refine S (G (R q 1 c j fun a c=>E (T (V (Xr ?_)))));cases d;refine N (v:=_) c j ⟨_,_,_,j,f.nil,j,j⟩
  replace d:=cf av d;refine K (T (S (S ?_)));obtain ⟨a1,d,bw⟩:=bd d
  refine X c f (fun e L a' w'=>∃ u,g.le u∧Env a' 88 (sl e [2,3,4] [(47,.bool a1)])∧Inv ak l [] u L w') ?_ ?_
  · refine G (R q 1 c j fun a c=>L f c j (B q 0 j j j j) j fun a c=>R q 2 c j fun a c=>?_);rcases Bo (decide (i.Kind=(2:Int))) with aa | aa
    rotate_left
    · replace d:=cf aa d;have c:=c.tr (t:=27) j aa;refine R q 11 c j fun a c=>L f c j (B q 0 j j j j) j fun a c=>R q 2 c j fun a c=>?_
      rcases Bo (decide (i.Kind=(4:Int))) with af | af;rotate_left
      · replace d:=cf af d;have c:=c.tr (t:=41) j af;refine R q 6 c j fun a c=>E (T ?_);cases d;exact ⟨g,rf,c.kp j,f⟩
      replace d:=ct af d;have c:=c.tr (t:=41) j af;refine R q 1 c j fun a c=>L f c j (B q 0 j j j j) j fun a c=>R q 4 c j fun a c=>E (T ?_)
      cases d;exact ⟨g,rf,c.kp j,f⟩
    replace d:=ct aa d;have c:=c.tr (t:=27) j aa;refine R q 1 c j fun a c=>L f c j (B q 0 j j j j) j fun a c=>R q 3 c j fun a c=>?_
    rcases Bo (!decide (i.N=(0:Int))) with ab | ab;rotate_left
    · replace d:=cf ab d;have c:=c.tr (t:=32) j ab;refine R q 6 c j fun a c=>L f c j (B q 0 j j j j) j fun a c=>R q 2 c j fun a c=>?_
      rcases Bo (decide (i.Kind=(4:Int))) with ae | ae;rotate_left
      · replace d:=cf ae d;have c:=c.tr (t:=41) j ae;refine R q 6 c j fun a c=>E (T ?_);cases d;exact ⟨g,rf,c.kp j,f⟩
      replace d:=ct ae d;have c:=c.tr (t:=41) j ae;refine R q 1 c j fun a c=>L f c j (B q 0 j j j j) j fun a c=>R q 4 c j fun a c=>E (T ?_)
      cases d;exact ⟨g,rf,c.kp j,f⟩
    replace d:=ct ab d;have c:=c.tr (t:=32) j ab;refine R q 1 c j fun a c=>L f c j (B q 0 j j j j) j fun a c=>R q 3 c j fun a c=>?_
    rcases Bo (!decide (i.N=(1:Int))) with ac | ac
    · replace d:=ct ac d;have c:=c.tr (t:=37) j ac;refine R q 10 c j fun a c=>E (T ?_);cases d;exact ⟨g,rf,c.kp j,f⟩
    replace d:=cf ac d;have c:=c.tr (t:=37) j ac;refine R q 1 c j fun a c=>L f c j (B q 0 j j j j) j fun a c=>R q 2 c j fun a c=>?_
    rcases Bo (decide (i.Kind=(4:Int))) with ad | ad;rotate_left
    · replace d:=cf ad d;have c:=c.tr (t:=41) j ad;refine R q 6 c j fun a c=>E (T ?_);cases d;exact ⟨g,rf,c.kp j,f⟩
    replace d:=ct ad d;have c:=c.tr (t:=41) j ad;refine R q 1 c j fun a c=>L f c j (B q 0 j j j j) j fun a c=>R q 4 c j fun a c=>E (T ?_)
    cases d;exact ⟨g,rf,c.kp j,f⟩
  rintro a w ⟨u,aj,c,f⟩;have d:=bw;refine T (Cc (b:=a1) c j (fun au=>?_) (fun au=>?_))
  · replace d:=ct au d;refine S (G (R q 1 c j fun a c=>E (T (V (Xr ?_)))));cases d;refine N (v:=_) c j ⟨_,_,_,j,f.nil,j,j⟩
  replace d:=cf au d;refine K (T (S (S ?_)));obtain ⟨a2,d,bx⟩:=bd d
  refine X c f (fun e L a' w'=>∃ o,u.le o∧Env a' 88 (sl e [2,3,4] [(70,.bool a2)])∧Inv ak l [] o L w') ?_ ?_
  · refine G (R q 1 c j fun a c=>L f c j (B q 0 j j j j) j fun a c=>R q 2 c j fun a c=>?_);rcases Bo (decide (i.Kind=(5:Int))) with x | x
    rotate_left
    · replace d:=cf x d;have c:=c.tr (t:=51) j x;refine R q 19 c j fun a c=>E (T ?_);cases d;exact ⟨u,rf,c.kp j,f⟩
    replace d:=ct x d;have c:=c.tr (t:=51) j x
    refine R q 1 c j fun a c=>L f c j (B q 1 j j j j) j fun a c=>R q 1 c j fun a c=>L f c j (B q 0 j j j j) j fun a c=>?_
    obtain ⟨b7,b3,d⟩:=bd d;refine J cl_84 f c j j ((ref08_Col.ok k) b3 f.pass0 (ay.m (ai.t aj))) j ?_;rintro a w _ ao _ ⟨rfl,rfl⟩ aw f c
    refine R q 2 c j fun a c=>?_;rcases Bo (decide (b7 < (0:Int))) with y | y
    · replace d:=ct y d;have c:=c.tr (t:=58) j y;refine R q 12 c j fun a c=>E (T ?_);cases d;exact ⟨ao,aw,c.kp j,f⟩
    replace d:=cf y d;have c:=c.tr (t:=58) j y;refine R q 1 c j fun a c=>L f c j (B q 0 j j j j) j fun a c=>R q 2 c j fun a c=>?_
    rcases Bo (!decide (i.T=(⟨#[]⟩:ByteArray))) with z | z;rotate_left
    · replace d:=cf z d;have c:=c.tr (t:=62) j z;refine R q 8 c j fun a c=>E (T ?_);cases d;exact ⟨ao,aw,c.kp j,f⟩
    replace d:=ct z d;have c:=c.tr (t:=62) j z
    refine R q 1 c j fun a c=>L f c j (B q 0 j j j j) j fun a c=>R q 1 c j fun a c=>L f c j (B q 1 j j j j) j fun a c=>R q 4 c j fun a c=>E (T ?_)
    cases d;exact ⟨ao,aw,c.kp j,f⟩
  rintro a w ⟨o,am,c,f⟩;have d:=bx;refine T (Cc (b:=a2) c j (fun ar=>?_) (fun ar=>?_))
  · replace d:=ct ar d;refine S (G (R q 1 c j fun a c=>E (T (V (Xr ?_)))));cases d;refine N (v:=_) c j ⟨_,_,_,j,f.nil,j,j⟩
  replace d:=cf ar d;refine K (T (S (S (G (R q 1 c j fun a c=>E (T ?_))))));obtain ⟨a3,n,az⟩:=bd d
  refine X c f (fun e L a' w'=>∃ a6 an,a3 = .go a6∧o.le an∧Env a' 88 []∧Inv ak l [] an L w') ?_ ?_;rotate_left
  · rintro a w ⟨a6,an,rfl,cd,c,f⟩;have d:=Lg az;refine T (S (G (R q 1 c j fun a c=>E (T (V ?_)))));cases d
    refine N (v:=_) c j ⟨_,_,_,j,f.nil,j,j⟩
  
  refine O (Q c f (fun e L n' a' w'=>∃ i113 m a5 s,n'=List.length m∧i113≤i.Kids.length∧i.Kids.drop i113=m∧forL (ref08_Shape.b0 k s_ref08_Shape b5 a4) i113 m a5=some a3∧o.le s∧Env a' 88 (sl e [2,3,4] [(7,i_ (i113:Int))])∧Inv ak l [] s L w') _ ⟨0,_,_,o,j,Nat.zero_le _,j,n,rf,c.kp j,f⟩ ?_)
  rintro ce a w ⟨i113,m,a5,s,rfl,b0,al,n,p,c,f⟩;rcases m with _ | ⟨ci,m⟩
  · obtain rfl:=Fn n;have ax:=Do al b0
    refine S (S (G (R q 2 c j fun a c=>L f c j (B q 0 j j j j) j fun a c=>R q 2 c j fun a c=>E (T ?_))))
    have c:=c.tr (t:=75) j (decide_eq_false (by omega));refine Fa c j (Ex (Xe (Xe (Xh (T (⟨_,s,j,p,c.kp j,f⟩))))))
  obtain ⟨ch,d,n⟩:=Fs n;obtain ⟨b1,al,ax⟩:=Dc al;unfold ref08_Shape.b0 at d
  refine S (S (G (R q 2 c j fun a c=>L f c j (B q 0 j j j j) j fun a c=>R q 2 c j fun a c=>E (T ?_))))
  have c:=c.tr (t:=75) j (decide_eq_true (by omega))
  refine Tr c j (K (T (S (O (S (Cd mixed (by kernel_rfl) f (Z c j (B q 1 j j j j) j fun a c=>Y q 1 c j fun a c=>Z c j (B q 0 j j j j) j fun a c=>Y q 1 c j fun a c=>?_)))))))
  obtain ⟨b8,cg,cs,bz,bt,br⟩:=Sa (ap.m (((ai.t aj).t am).t p)) (Int.natCast_nonneg _) (natIdx b1);obtain ⟨ba,bg,bb,bh,rfl,bm,bn⟩:=TExpr.inv.1 bt
  refine Z c j (I q bz j j j) j fun a c=>Z c j (Fg q br 0 j j j j) j fun a c=>Y q 2 c j fun a c=>?_;obtain ⟨b6,b2,d⟩:=bd d
  refine Qc cl_86 c j j (fun w f=>hs_ref08_Shape b2 f.pass0 (TTable.inv.2 ⟨a7,bj,bc,bk,be,bl,j,(ay.m (((ai.t aj).t am).t p)),(bp.m (((ai.t aj).t am).t p)),(bq.m (((ai.t aj).t am).t p))⟩) (TExpr.inv.2 ⟨ba,bg,bb,bh,j,bm,bn⟩)) (fun _ _ _ h=>h.2) j fun a c=>Y q 1 c j fun a c=>Qe ?_
  intro w f;refine T (Cc (b:=!b6) c j (fun aq=>?_) (fun aq=>?_));rotate_left
  · replace d:=cf aq d;refine K (xB (T (G (R q 3 c j fun a c=>E (T ?_)))));cases d;have c:=c.setI (t:=7) j (Wc ax (Ln ap))
    exact ⟨m.length,Nat.lt_succ_self _,i113 + 1,m,_,s,j,ax,al,n,p,c.kp j,f⟩
  replace d:=ct aq d;refine S (G (R q 1 c j fun a c=>E (T (V (Xb (Xr (Xr (Xb (Xr (Xr ?_))))))))));cases d;obtain rfl:=Nr n;have d:=Le az;cases d
  refine N (v:=_) c j ⟨_,_,_,j,f.nil,j,j⟩

theorem ref08_Shape.ok_all:∀ k,ref08_Shape.C (ref08_Shape k)
  | 0=>by first | (intro _ _ _ _ h;cases h;done) | (intro h;cases h)
  | k + 1=>by
    have h:=@ref08_Shape.ok_all k
    exact ref08_Shape.F_ok k (ref08_Shape k) @h

theorem ref08_Shape.ok (k:Nat):ref08_Shape.C (ref08_Shape k):=@ref08_Shape.ok_all k

theorem cl_87:Callable Tryz.prog 87:=⟨_,Tryz.func87,by kernel_rfl,by kernel_rfl⟩

def ref08_may.C (s:Int→Option Bool):Prop:=∀ {d r},s d=some r→∀ {b c },Inv b c [] c [] b→Calls Tryz.prog 87 #[i_ d] b (Ret b c [] fun G' L' v=>L'=[]∧v = .bool r)

theorem ref08_may.ok (k:Nat):ref08_may.C (ref08_may k):=by
  intro m r c n g  d
  unfold ref08_may at c
  refine Ci 9 Tryz.func87 j j j fun a b=>?_
  refine S (G (R q 1 b j fun a b=>E (T (S ?_))));obtain ⟨l,c,i⟩:=bd c;refine X b d (fun e L a' w'=>∃ h,g.le h∧Env a' 9 [(2,.bool l)]∧Inv n g [] h L w') ?_ ?_
  rotate_left
  · rintro a w ⟨h,o,b,d⟩;have c:=i;refine T (V ?_);cases c;refine N (v:=_) b j ⟨_,_,_,j,d.nil,j,j⟩
  refine G (R q 3 b j fun a b=>?_);rcases Bo (decide (m=(0:Int))) with f | f
  · replace c:=ct f c;have b:=b.tr (t:=5) j f;refine R q 4 b j fun a b=>E (T ?_);cases c;exact ⟨g,rf,b.kp j,d⟩
  replace c:=cf f c;have b:=b.tr (t:=5) j f;refine R q 4 b j fun a b=>E (T ?_);cases c;exact ⟨g,rf,b.kp j,d⟩

theorem cl_116:Callable Tryz.prog 116:=⟨_,Tryz.func116,by kernel_rfl,by kernel_rfl⟩

def ref08_both.C (s:Int→Int→Option Int):Prop:=∀ {d e r},s d e=some r→∀ {b c },Inv b c [] c [] b→Calls Tryz.prog 116 #[i_ d,i_ e] b (Ret b c [] fun G' L' v=>L'=[]∧v=i_ r)

theorem ref08_both.ok (k:Nat):ref08_both.C (ref08_both k):=by
  intro x ab r d y h  f
  unfold ref08_both at d
  refine Ci 22 Tryz.func116 j j j fun a c=>?_
  refine S (G (R q 1 c j fun a c=>E (T (S (S ?_)))));obtain ⟨u,d,aa⟩:=bd d
  refine X c f (fun e L a' w'=>∃ g,h.le g∧Env a' 22 (sl e [0,1] [(10,.bool u)])∧Inv y h [] g L w') ?_ ?_
  · refine G (R q 3 c j fun a c=>?_);rcases Bo (decide (x=(-1:Int))) with l | l
    · replace d:=ct l d;have c:=c.tr (t:=7) j l;refine R q 3 c j fun a c=>E (T ?_);cases d;exact ⟨h,rf,c.kp j,f⟩
    replace d:=cf l d;have c:=c.tr (t:=7) j l;refine R q 3 c j fun a c=>E (T ?_);cases d;exact ⟨h,rf,c.kp j,f⟩
  rintro a w ⟨g,ad,c,f⟩;have d:=aa;refine T (Cc (b:=u) c j (fun p=>?_) (fun p=>?_))
  · replace d:=ct p d;refine S (G (R q 1 c j fun a c=>E (T (V (Xr ?_)))));cases d;refine N (v:=_) c j ⟨_,_,_,j,f.nil,j,j⟩
  replace d:=cf p d;refine K (T (S (S (G (R q 2 c j fun a c=>E (T (Cc (b:=decide (x=(0:Int))) c j (fun o=>?_) (fun o=>?_))))))))
  · replace d:=ct o d;refine S (G (R q 2 c j fun a c=>E (T (V (Xr ?_)))));cases d;refine N (v:=_) c j ⟨_,_,_,j,f.nil,j,j⟩
  replace d:=cf o d;refine K (T (S (S ?_)));obtain ⟨s,d,z⟩:=bd d;refine X c f (fun e L a' w'=>∃ m,g.le m∧Env a' 22 (sl e [0] [(20,.bool s)])∧Inv y h [] m L w') ?_ ?_
  · refine G (R q 3 c j fun a c=>?_);rcases Bo (decide (ab=(0:Int))) with i | i
    · replace d:=ct i d;have c:=c.tr (t:=16) j i;refine R q 4 c j fun a c=>E (T ?_);cases d;exact ⟨g,rf,c.kp j,f⟩
    replace d:=cf i d;have c:=c.tr (t:=16) j i;refine R q 4 c j fun a c=>E (T ?_);cases d;exact ⟨g,rf,c.kp j,f⟩
  rintro a w ⟨m,ac,c,f⟩;have d:=z;refine T (Cc (b:=s) c j (fun n=>?_) (fun n=>?_))
  · replace d:=ct n d;refine S (G (R q 2 c j fun a c=>E (T (V (Xr ?_)))));cases d;refine N (v:=_) c j ⟨_,_,_,j,f.nil,j,j⟩
  replace d:=cf n d;refine K (T (S (G (R q 1 c j fun a c=>E (T (V ?_))))));cases d;refine N (v:=_) c j ⟨_,_,_,j,f.nil,j,j⟩

theorem cl_88:Callable Tryz.prog 88:=⟨_,Tryz.func88,by kernel_rfl,by kernel_rfl⟩

def ref08_Type.C (s:TTable→TExpr→Option Int):Prop:=∀ {f g r},s f g=some r→∀ {c b d e},Inv c b [] b [] c→(Rep b f.d d)→(Rep b g.d e)→Calls Tryz.prog 88 #[.agg ⟨d⟩,.agg ⟨e⟩] c (Ret c b [] fun G' L' v=>L'=[]∧v=i_ r)

theorem ref08_Type.F_ok (k:Nat) (s_ref08_Type:TTable→TExpr→Option Int) (hs_ref08_Type:ref08_Type.C s_ref08_Type):ref08_Type.C (ref08_Type.F k s_ref08_Type):=by
  intro dp m r d aj n d5 d6 g ci cj
  unfold ref08_Type.F at d
  obtain ⟨bv,b5,bw,b9,b1,ca,rfl,a2,cd,ce⟩:=TTable.inv.1 ci
  obtain ⟨du,d3,dv,d4,rfl,bl,ef⟩:=TExpr.inv.1 cj
  refine Ci 101 Tryz.func88 j j j fun a c=>?_
  
  refine S (G (s_box g c j j j j fun a w dy c g=>s_box g c j j j j fun a w dz c g=>R q 1 c j fun a c=>E (T (S (G (R q 1 c j fun a c=>E (T (S (S (G (R q 1 c j fun a c=>E (T ?_))))))))))))
  have g:=g.nilrow 3 1;have cq:RL n 1 (([]:List Int).map di) []:=Rn;obtain ⟨bu,x,bm⟩:=bd d
  refine X c g (fun e L a' w'=>∃ ab o ax a0 a1,bu = .go ab∧n.le o∧Env a' 101 (sl e [2,3] [(5,.slice ax ab.length a0)])∧Inv aj n [] o [.row (.slice ax ab.length a0) 3 1 ab.length a1,nt L 1,nt L 2] w'∧RL o 1 (ab.map di) a1) ?_ ?_
  ·
    refine O (Q c g (fun e L n' a' w'=>∃ i399 s y u ak am ac,n'=List.length s∧i399≤m.Kids.length∧m.Kids.drop i399=s∧forL (ref08_Type.b0 k s_ref08_Type dp) i399 s y=some bu∧n.le u∧Env a' 101 (sl e [2,3] [(6,i_ (i399:Int)),(5,.slice ak y.length am)])∧Inv aj n [] u [.row (.slice ak y.length am) 3 1 y.length ac,nt L 1,nt L 2] w'∧RL u 1 (y.map di) ac) _ ⟨0,_,_,n,none,0,[],j,Nat.zero_le _,j,x,rf,c.kp j,g,cq⟩ ?_)
    rintro eq a w ⟨i399,s,y,u,ak,am,ac,rfl,c5,an,x,aa,c,g,bn⟩;rcases s with _ | ⟨eu,s⟩
    · obtain rfl:=Fn x;have bi:=Do an c5
      refine S (S (G (R q 2 c j fun a c=>L g c j (B q 1 j j j j) j fun a c=>R q 2 c j fun a c=>E (T ?_))))
      have c:=c.tr (t:=12) j (decide_eq_false (by omega));refine Fa c j (Ex (Xe (Xe (Xh (T (⟨_,u,ak,am,ac,j,aa,c.kp j,g,bn⟩))))))
    obtain ⟨et,d,x⟩:=Fs x;obtain ⟨de,an,bi⟩:=Dc an;unfold ref08_Type.b0 at d
    refine S (S (G (R q 2 c j fun a c=>L g c j (B q 1 j j j j) j fun a c=>R q 2 c j fun a c=>E (T ?_))))
    have c:=c.tr (t:=12) j (decide_eq_true (by omega))
    refine Tr c j (K (T (S (O (S (Cd mixed (by kernel_rfl) g (Z c j (B q 2 j j j j) j fun a c=>Y q 1 c j fun a c=>Z c j (B q 1 j j j j) j fun a c=>Y q 1 c j fun a c=>?_)))))))
    obtain ⟨d1,es,cs,cu,co,ch⟩:=Sa (bl.m aa) (Int.natCast_nonneg _) (natIdx de);obtain ⟨bx,b6,bz,b7,rfl,cb,cc⟩:=TExpr.inv.1 co
    refine Z c j (I q cu j j j) j fun a c=>Z c j (Fg q ch 0 j j j j) j fun a c=>?_;obtain ⟨aw,dn,d⟩:=bd d
    refine Qc cl_88 c j j (fun w g=>hs_ref08_Type dn g.pass0 (TTable.inv.2 ⟨bv,b5,bw,b9,b1,ca,j,(a2.m aa),(cd.m aa),(ce.m aa)⟩) (TExpr.inv.2 ⟨bx,b6,bz,b7,j,cb,cc⟩)) (fun _ _ _ h=>h.2) j fun a c=>Y q 1 c j fun a c=>Qe ?_
    intro w g;refine T (S (S (G (R q 2 c j fun a c=>E (T (Cc (b:=decide (aw=(-1:Int))) c j (fun bh=>?_) (fun bh=>?_)))))))
    · replace d:=ct bh d;refine S (G (R q 1 c j fun a c=>E (T (V (Xr (Xb (Xr (Xr (Xb (Xr (Xr ?_)))))))))));cases d;obtain rfl:=Nr x;have d:=Le bm;cases d
      refine N (v:=_) c j ⟨_,_,_,j,g.nil,j,j⟩
    replace d:=cf bh d;refine K (T (G (R q 2 c j fun a c=>Bs ai_40 g c j j j j j fun a w d2 c g=>?_)))
    have bo:RL u 1 ([aw].map di) _:=(Rc (rep_int.2 j) j Rn);obtain ⟨_,cv,d⟩:=bd d
    refine Ao (f:=di) (xs:=y) (ys:=[aw]) ai_40 1 0 g c j j j bo j j (Ll cv) j fun a w b0 b8 c g=>?_;have cp:=Ra bn bo
    refine R q 1 c j fun a c=>E (xB (T (G (R q 3 c j fun a c=>E (T ?_)))));cases d;have c:=c.setI (t:=6) j (Wc bi (Ln bl))
    exact ⟨s.length,Nat.lt_succ_self _,i399 + 1,s,_,u,b0,b8,(ac ++ [i_ aw]),j,bi,an,x,aa,c.kp j,(g.dropN 1 j),cp⟩
  rintro a w ⟨ab,o,ax,a0,a1,rfl,bp,c,g,l⟩;have d:=Lg bm
  refine T (S (S (G (R q 1 c j fun a c=>L g c j (B q 1 j j j j) j fun a c=>E (T (O (S (S (G (R q 2 c j fun a c=>E (T ?_)))))))))))
  obtain ⟨br,d,ck⟩:=bd d;refine X c g (fun e L a' w'=>∃ z,o.le z∧Env a' 101 (sl e [2,3,5,29] [(30,.bool br)])∧Inv aj n [] z L w') ?_ ?_
  · refine Cc (b:=decide (m.Kind=(1:Int))) c j (fun bg=>?_) (fun bg=>?_)
    · replace d:=ct bg d;refine K (T ?_);cases d;exact ⟨o,rf,c.kp j,g⟩
    replace d:=cf bg d;refine S (G (R q 2 c j fun a c=>E (T (Cc (b:=decide (m.Kind=(2:Int))) c j (fun bf=>?_) (fun bf=>?_)))))
    · replace d:=ct bf d;refine K (T ?_);cases d;exact ⟨o,rf,c.kp j,g⟩
    replace d:=cf bf d;refine S (G (R q 2 c j fun a c=>E (T (Cc (b:=decide (m.Kind=(3:Int))) c j (fun be=>?_) (fun be=>?_)))))
    · replace d:=ct be d;refine K (T ?_);cases d;exact ⟨o,rf,c.kp j,g⟩
    replace d:=cf be d;refine G (R q 2 c j fun a c=>E (T ?_));cases d;exact ⟨o,rf,c.kp j,g⟩
  rintro a w ⟨z,i,c,g⟩;have d:=ck;refine T (Cc (b:=br) c j (fun bc=>?_) (fun bc=>?_))
  · replace d:=ct bc d;refine S (G (R q 1 c j fun a c=>L g c j (B q 1 j j j j) j fun a c=>R q 2 c j fun a c=>E (T (V (Xb (Xr ?_))))));cases d
    refine N (v:=_) c j ⟨_,_,_,j,g.nil,j,j⟩
  replace d:=cf bc d;refine S (G (R q 2 c j fun a c=>E (T (Cc (b:=decide (m.Kind=(5:Int))) c j (fun bb=>?_) (fun bb=>?_)))))
  · replace d:=ct bb d
    refine S (Cd mixed (by kernel_rfl) g (Y q 1 c j fun a c=>Z c j (B q 2 j j j j) j fun a c=>Y q 1 c j fun a c=>Z c j (B q 2 j j j j) j fun a c=>Y q 1 c j fun a c=>Z c j (B q 1 j j j j) j fun a c=>?_))
    obtain ⟨ev,df,d⟩:=bd d;refine Qc cl_84 c j j (fun w g=>(ref08_Col.ok k) df g.pass0 (a2.m (bp.t i))) (fun _ _ _ h=>h.2) j fun a c=>?_;obtain ⟨ew,bq,d⟩:=bd d
    obtain ⟨d0,er,cs,cr,cl,cg⟩:=Sa (a2.m (bp.t i)) (Go bq).1 (Go bq).2;obtain rfl:=TCol.inv.1 cl
    refine Z c j (I q cr j j j) j fun a c=>Y q 1 c j fun a c=>Z c j (Fg q cg 1 j j j j) j fun a c=>Y q 1 c j fun a c=>Qe ?_;intro w g
    refine T (V (Xb (Xr ?_)));cases d;refine N (v:=_) c j ⟨_,_,_,j,g.nil,j,j⟩
  replace d:=cf bb d;refine S (G (R q 2 c j fun a c=>E (T (Cc (b:=decide (m.Kind=(8:Int))) c j (fun ba=>?_) (fun ba=>?_)))))
  · replace d:=ct ba d;refine S (S (G (R q 1 c j fun a c=>?_)));obtain ⟨ex,af,d⟩:=bd d;obtain ⟨b4,rfl⟩:=row_ptr 0 g j j (Go af).2
    obtain ⟨d7,eg,c6,cw⟩:=Rt (l.m i) (Go af).2;obtain rfl:=rep_int.1 c6
    refine L g c j (I q (Ro (Go af).1 (Go af).2 b4 1) j j j) j fun a c=>L g c j (f_loadR q 0 j cw 0 j j j j (Rl (l.m i) (Go af).2)) j fun a c=>?_
    obtain ⟨dq,dg,d⟩:=bd d;refine J cl_87 g c j j ((ref08_may.ok k) dg g.pass0 ) j ?_;rintro a w _ dw _ ⟨rfl,rfl⟩ eo g c
    refine R q 1 c j fun a c=>E (T (Cc (b:=!dq) c j (fun a3=>?_) (fun a3=>?_)))
    · replace d:=ct a3 d;refine S (G (R q 1 c j fun a c=>E (T (V (Xr (Xb (Xr ?_)))))));cases d;refine N (v:=_) c j ⟨_,_,_,j,g.nil,j,j⟩
    replace d:=cf a3 d;refine K (T (S (G (R q 1 c j fun a c=>E (T (V (Xb (Xr ?_))))))));cases d;refine N (v:=_) c j ⟨_,_,_,j,g.nil,j,j⟩
  replace d:=cf ba d;refine S (G (R q 2 c j fun a c=>E (T (Cc (b:=decide (m.Kind=(9:Int))) c j (fun a9=>?_) (fun a9=>?_)))))
  · replace d:=ct a9 d;refine S (G (R q 1 c j fun a c=>E (T (V (Xb (Xr ?_))))));cases d;refine N (v:=_) c j ⟨_,_,_,j,g.nil,j,j⟩
  replace d:=cf a9 d;refine S (G (R q 2 c j fun a c=>E (T (Cc (b:=decide (m.Kind=(11:Int))) c j (fun a8=>?_) (fun a8=>?_)))))
  · replace d:=ct a8 d;refine S (S (G (R q 1 c j fun a c=>?_)));obtain ⟨ey,ag,d⟩:=bd d;obtain ⟨az,rfl⟩:=row_ptr 0 g j j (Go ag).2
    obtain ⟨d8,eh,c7,cx⟩:=Rt (l.m i) (Go ag).2;obtain rfl:=rep_int.1 c7
    refine L g c j (I q (Ro (Go ag).1 (Go ag).2 az 1) j j j) j fun a c=>L g c j (f_loadR q 0 j cx 0 j j j j (Rl (l.m i) (Go ag).2)) j fun a c=>?_
    obtain ⟨dr,dh,d⟩:=bd d;refine J cl_87 g c j j ((ref08_may.ok k) dh g.pass0 ) j ?_;rintro a w _ dx _ ⟨rfl,rfl⟩ ao g c
    refine R q 1 c j fun a c=>E (T (Cc (b:=!dr) c j (fun a4=>?_) (fun a4=>?_)))
    · replace d:=ct a4 d;refine S (G (R q 1 c j fun a c=>E (T (V (Xr (Xb (Xr ?_)))))));cases d;refine N (v:=_) c j ⟨_,_,_,j,g.nil,j,j⟩
    replace d:=cf a4 d;refine K (T (S (Cd mixed (by kernel_rfl) g (Y q 1 c j fun a c=>?_))));obtain ⟨ez,aq,d⟩:=bd d
    obtain ⟨d9,ei,c8,cy⟩:=Rt (l.m (i.t ao)) (Go aq).2;obtain rfl:=rep_int.1 c8
    refine Z c j (I q (Ro (Go aq).1 (Go aq).2 az 1) j j j) j fun a c=>Z c j (f_loadR q 0 j cy 0 j j j j (Rl (l.m (i.t ao)) (Go aq).2)) j fun a c=>Y q 1 c j fun a c=>?_
    obtain ⟨e0,ar,d⟩:=bd d;obtain ⟨ea,ej,c9,cz⟩:=Rt (l.m (i.t ao)) (Go ar).2;obtain rfl:=rep_int.1 c9
    refine Z c j (I q (Ro (Go ar).1 (Go ar).2 az 1) j j j) j fun a c=>Z c j (f_loadR q 0 j cz 0 j j j j (Rl (l.m (i.t ao)) (Go ar).2)) j fun a c=>?_
    obtain ⟨e1,dj,d⟩:=bd d;refine Qc cl_116 c j j (fun w g=>(ref08_both.ok k) dj g.pass0 ) (fun _ _ _ h=>h.2) j fun a c=>Y q 1 c j fun a c=>Qe ?_;intro w g
    refine T (V (Xb (Xr ?_)));cases d;refine N (v:=_) c j ⟨_,_,_,j,g.nil,j,j⟩
  replace d:=cf a8 d;refine K (xB (T (S (S ?_))));obtain ⟨bs,d,cm⟩:=bd d
  refine X c g (fun e L a' w'=>∃ al,z.le al∧Env a' 101 (sl e [5] [(80,.bool bs)])∧Inv aj n [] al [nt L 0] w') ?_ ?_
  · refine G (R q 1 c j fun a c=>L g c j (B q 1 j j j j) j fun a c=>R q 2 c j fun a c=>?_)
    rcases Bo (decide (m.S=(⟨#[111,114]⟩:ByteArray))) with ae | ae
    · replace d:=ct ae d;have c:=c.tr (t:=76) j ae;refine R q 4 c j fun a c=>E (T ?_);cases d;exact ⟨z,rf,c.kp j,(g.pick [0] (by decide) j)⟩
    replace d:=cf ae d;have c:=c.tr (t:=76) j ae;refine R q 1 c j fun a c=>L g c j (B q 1 j j j j) j fun a c=>R q 2 c j fun a c=>E (T ?_)
    cases d;exact ⟨z,rf,c.kp j,(g.pick [0] (by decide) j)⟩
  rintro a w ⟨al,p,c,g⟩;have d:=cm;refine T (Cc (b:=bs) c j (fun a7=>?_) (fun a7=>?_));rotate_left
  · replace d:=cf a7 d;refine K (T (S (S (Cd mixed (by kernel_rfl) g (Y q 1 c j fun a c=>?_)))));obtain ⟨e5,ai,d⟩:=bd d
    obtain ⟨bk,rfl⟩:=row_ptr 0 g j j (Go ai).2;obtain ⟨ed,em,dc,c2⟩:=Rt (l.m (i.t p)) (Go ai).2;obtain rfl:=rep_int.1 dc
    refine Z c j (I q (Ro (Go ai).1 (Go ai).2 bk 1) j j j) j fun a c=>Z c j (f_loadR q 0 j c2 0 j j j j (Rl (l.m (i.t p)) (Go ai).2)) j fun a c=>Y q 1 c j fun a c=>?_
    obtain ⟨e6,av,d⟩:=bd d;obtain ⟨ee,en,dd,c3⟩:=Rt (l.m (i.t p)) (Go av).2;obtain rfl:=rep_int.1 dd
    refine Z c j (I q (Ro (Go av).1 (Go av).2 bk 1) j j j) j fun a c=>Z c j (f_loadR q 0 j c3 0 j j j j (Rl (l.m (i.t p)) (Go av).2)) j fun a c=>?_
    obtain ⟨dt,dm,d⟩:=bd d;refine Qc cl_116 c j j (fun w g=>(ref08_both.ok k) dm g.pass0 ) (fun _ _ _ h=>h.2) j fun a c=>Y q 1 c j fun a c=>Qe ?_;intro w g
    refine T (Cc (b:=decide (dt=(-1:Int))) c j (fun a6=>?_) (fun a6=>?_))
    · replace d:=ct a6 d;refine S (G (R q 1 c j fun a c=>E (T (V (Xr ?_)))));cases d;refine N (v:=_) c j ⟨_,_,_,j,g.nil,j,j⟩
    replace d:=cf a6 d;refine K (T (S (G (R q 1 c j fun a c=>E (T (V ?_))))));cases d;refine N (v:=_) c j ⟨_,_,_,j,g.nil,j,j⟩
  replace d:=ct a7 d;refine S (S ?_);obtain ⟨bt,d,cn⟩:=bd d;refine X c g (fun e L a' w'=>∃ ay,al.le ay∧Env a' 101 [(92,.bool bt)]∧Inv aj n [] ay [] w') ?_ ?_
  rotate_left
  · rintro a w ⟨ay,ep,c,g⟩;have d:=cn;refine T (Cc (b:=bt) c j (fun a5=>?_) (fun a5=>?_))
    · replace d:=ct a5 d;refine S (G (R q 1 c j fun a c=>E (T (V (Xr (Xr ?_))))));cases d;refine N (v:=_) c j ⟨_,_,_,j,g.nil,j,j⟩
    replace d:=cf a5 d;refine K (T (S (G (R q 1 c j fun a c=>E (T (V (Xr ?_)))))));cases d;refine N (v:=_) c j ⟨_,_,_,j,g.nil,j,j⟩
  refine G (R q 1 c j fun a c=>?_);obtain ⟨e2,ah,d⟩:=bd d;obtain ⟨bj,rfl⟩:=row_ptr 0 g j j (Go ah).2
  obtain ⟨eb,ek,da,c0⟩:=Rt (l.m (i.t p)) (Go ah).2;obtain rfl:=rep_int.1 da
  refine L g c j (I q (Ro (Go ah).1 (Go ah).2 bj 1) j j j) j fun a c=>L g c j (f_loadR q 0 j c0 0 j j j j (Rl (l.m (i.t p)) (Go ah).2)) j fun a c=>?_
  obtain ⟨ds,dk,d⟩:=bd d;refine J cl_87 g c j j ((ref08_may.ok k) dk g.pass0 ) j ?_;rintro a w _ b2 _ ⟨rfl,rfl⟩ ap g c;refine R q 2 c j fun a c=>?_
  rcases Bo (!ds) with ad | ad
  · replace d:=ct ad d;have c:=c.tr (t:=86) j ad;refine R q 6 c j fun a c=>E (T ?_);cases d;exact ⟨b2,ap,c.kp j,(g.dropN 1 j)⟩
  replace d:=cf ad d;have c:=c.tr (t:=86) j ad;refine R q 1 c j fun a c=>?_;obtain ⟨e3,au,d⟩:=bd d
  obtain ⟨ec,el,db,c1⟩:=Rt (l.m ((i.t p).t ap)) (Go au).2;obtain rfl:=rep_int.1 db
  refine L g c j (I q (Ro (Go au).1 (Go au).2 bj 1) j j j) j fun a c=>L g c j (f_loadR q 0 j c1 0 j j j j (Rl (l.m ((i.t p).t ap)) (Go au).2)) j fun a c=>?_
  obtain ⟨e4,dl,d⟩:=bd d;refine J cl_87 g c j j ((ref08_may.ok k) dl g.pass0 ) j ?_;rintro a w _ b3 _ ⟨rfl,rfl⟩ c4 g c;refine R q 2 c j fun a c=>E (T ?_);cases d
  exact ⟨b3,(ap.t c4),c.kp j,(g.dropN 1 j)⟩

theorem ref08_Type.ok_all:∀ k,ref08_Type.C (ref08_Type k)
  | 0=>by first | (intro _ _ _ h;cases h;done) | (intro h;cases h)
  | k + 1=>by
    have h:=@ref08_Type.ok_all k
    exact ref08_Type.F_ok k (ref08_Type k) @h

theorem ref08_Type.ok (k:Nat):ref08_Type.C (ref08_Type k):=@ref08_Type.ok_all k

theorem cl_89:Callable Tryz.prog 89:=⟨_,Tryz.func89,by kernel_rfl,by kernel_rfl⟩

def ref08_Catalog_Below.C (s:(Option Tref08_Catalog)→TTable→TExpr→Int→Option Bool):Prop:=∀ {g h i l r},s g h i l=some r→∀ {c b d e f},Inv c b [] b [] c→(Pt b d 36 Tref08_Catalog.d g)→(Rep b h.d e)→(Rep b i.d f)→Calls Tryz.prog 89 #[.pointer d,.agg ⟨e⟩,.agg ⟨f⟩,i_ l] c (Ret c b [] fun G' L' v=>L'=[]∧v = .bool r)

theorem ref08_Catalog_Below.F_ok (k:Nat) (s_ref08_Catalog_Below:(Option Tref08_Catalog)→TTable→TExpr→Int→Option Bool) (hs_ref08_Catalog_Below:ref08_Catalog_Below.C s_ref08_Catalog_Below):ref08_Catalog_Below.C (ref08_Catalog_Below.F k s_ref08_Catalog_Below):=by
  intro bm bn ae bo r d af m bq b8 b9 f y a7 bb
  unfold ref08_Catalog_Below.F at d
  obtain ⟨ap,ax,aq,ay,ar,au,rfl,z,a3,az⟩:=TTable.inv.1 a7
  obtain ⟨br,b3,bs,b4,rfl,ag,cd⟩:=TExpr.inv.1 bb
  refine Ci 51 Tryz.func89 j j j fun a c=>?_
  refine S (G (s_box f c j j j j fun a w b1 c f=>s_box f c j j j j fun a w b2 c f=>R q 1 c j fun a c=>E (T (S (S ?_)))));obtain ⟨aj,d,bc⟩:=bd d
  refine X c f (fun e L a' w'=>∃ n,m.le n∧Env a' 51 (sl e [0,3,5,6] [(33,.bool aj)])∧Inv af m [] n L w') ?_ ?_
  · refine Cd mixed (by kernel_rfl) f (Y q 1 c j fun a c=>Z c j (B q 0 j j j j) j fun a c=>Y q 2 c j fun a c=>?_)
    rcases Bo (decide (ae.Kind=(5:Int))) with p | p;rotate_left
    · replace d:=cf p d;have c:=c.tr (t:=13) j p;refine Y q 20 c j fun a c=>Qe ?_;intro w f;refine T ?_;cases d;exact ⟨m,rf,c.kp j,f⟩
    replace d:=ct p d;have c:=c.tr (t:=13) j p;refine Y q 1 c j fun a c=>?_;rcases (y).cases with ⟨ad,rfl⟩ | ⟨cl,bz,cs,ad,rfl,a9,a5⟩
    · cases op_n ad d
    replace d:=op_s ad d;obtain ⟨bt,bu,b5,bv,b6,bw,b7,rfl,a2,ca,cb,cc⟩:=Tref08_Catalog.inv.1 a9
    refine Y q 2 c j fun a c=>Z c j (Fg q a5 0 j j j j) j fun a c=>Y q 2 c j fun a c=>Z c j (B q 1 j j j j) j fun a c=>Y q 1 c j fun a c=>Z c j (B q 1 j j j j) j fun a c=>Y q 1 c j fun a c=>Z c j (B q 0 j j j j) j fun a c=>?_
    obtain ⟨cm,bj,d⟩:=bd d;refine Qc cl_84 c j j (fun w f=>(ref08_Col.ok k) bj f.pass0 z) (fun _ _ _ h=>h.2) j fun a c=>?_;obtain ⟨cn,ai,d⟩:=bd d
    obtain ⟨b0,ci,cs,bf,ba,a6⟩:=Sa z (Go ai).1 (Go ai).2;obtain rfl:=TCol.inv.1 ba
    refine Z c j (I q bf j j j) j fun a c=>Y q 1 c j fun a c=>Z c j (Fg q a6 3 j j j j) j fun a c=>?_;obtain ⟨co,bk,d⟩:=bd d
    refine Qc cl_85 c j j (fun w f=>(ref08_Catalog_level.ok k) bk f.pass0 y) (fun _ _ _ h=>h.2) j fun a c=>Y q 1 c j fun a c=>?_;obtain ⟨cp,bl,d⟩:=bd d
    refine Qc cl_13 c j j (fun w f=>(ref03_Lattice_Leq.ok k) bl f.pass0 a2) (fun _ _ _ h=>h.2) j fun a c=>Y q 2 c j fun a c=>Qe ?_;intro w f;refine T ?_;cases d
    exact ⟨m,rf,c.kp j,f⟩
  rintro a w ⟨n,s,c,f⟩;have d:=bc;refine T (Cc (b:=aj) c j (fun ab=>?_) (fun ab=>?_))
  · replace d:=ct ab d;refine S (G (R q 1 c j fun a c=>E (T (V (Xr ?_)))));cases d;refine N (v:=_) c j ⟨_,_,_,j,f.nil,j,j⟩
  replace d:=cf ab d;refine K (T (S (S (G (R q 1 c j fun a c=>E (T ?_))))));obtain ⟨ak,i,ah⟩:=bd d
  refine X c f (fun e L a' w'=>∃ am x,ak = .go am∧n.le x∧Env a' 51 []∧Inv af m [] x L w') ?_ ?_;rotate_left
  · rintro a w ⟨am,x,rfl,ce,c,f⟩;have d:=Lg ah;refine T (S (G (R q 1 c j fun a c=>E (T (V ?_)))));cases d
    refine N (v:=_) c j ⟨_,_,_,j,f.nil,j,j⟩
  
  refine O (Q c f (fun e L n' a' w'=>∃ i119 g al o,n'=List.length g∧i119≤ae.Kids.length∧ae.Kids.drop i119=g∧forL (ref08_Catalog_Below.b0 k s_ref08_Catalog_Below bm bn bo) i119 g al=some ak∧n.le o∧Env a' 51 (sl e [0,3,5,6] [(9,i_ (i119:Int))])∧Inv af m [] o L w') _ ⟨0,_,_,n,j,Nat.zero_le _,j,i,rf,c.kp j,f⟩ ?_)
  rintro cg a w ⟨i119,g,al,o,rfl,bg,u,i,l,c,f⟩;rcases g with _ | ⟨ck,g⟩
  · obtain rfl:=Fn i;have ac:=Do u bg
    refine S (S (G (R q 2 c j fun a c=>L f c j (B q 0 j j j j) j fun a c=>R q 2 c j fun a c=>E (T ?_))))
    have c:=c.tr (t:=38) j (decide_eq_false (by omega));refine Fa c j (Ex (Xe (Xe (Xh (T (⟨_,o,j,l,c.kp j,f⟩))))))
  obtain ⟨cj,d,i⟩:=Fs i;obtain ⟨bh,u,ac⟩:=Dc u;unfold ref08_Catalog_Below.b0 at d
  refine S (S (G (R q 2 c j fun a c=>L f c j (B q 0 j j j j) j fun a c=>R q 2 c j fun a c=>E (T ?_))))
  have c:=c.tr (t:=38) j (decide_eq_true (by omega))
  refine Tr c j (K (T (S (O (S (Cd mixed (by kernel_rfl) f (Y q 1 c j fun a c=>Z c j (B q 1 j j j j) j fun a c=>Y q 1 c j fun a c=>Z c j (B q 0 j j j j) j fun a c=>Y q 1 c j fun a c=>?_)))))))
  obtain ⟨bx,ch,cs,be,a8,a4⟩:=Sa (ag.m (s.t l)) (Int.natCast_nonneg _) (natIdx bh);obtain ⟨an,av,ao,aw,rfl,a0,a1⟩:=TExpr.inv.1 a8
  refine Z c j (I q be j j j) j fun a c=>Z c j (Fg q a4 0 j j j j) j fun a c=>Y q 1 c j fun a c=>?_;obtain ⟨bp,bi,d⟩:=bd d
  refine Qc cl_89 c j j (fun w f=>hs_ref08_Catalog_Below bi f.pass0 (y.m (s.t l)) (TTable.inv.2 ⟨ap,ax,aq,ay,ar,au,j,(z.m (s.t l)),(a3.m (s.t l)),(az.m (s.t l))⟩) (TExpr.inv.2 ⟨an,av,ao,aw,j,a0,a1⟩)) (fun _ _ _ h=>h.2) j fun a c=>Y q 1 c j fun a c=>Qe ?_
  intro w f;refine T (Cc (b:=!bp) c j (fun aa=>?_) (fun aa=>?_));rotate_left
  · replace d:=cf aa d;refine K (xB (T (G (R q 3 c j fun a c=>E (T ?_)))));cases d;have c:=c.setI (t:=9) j (Wc ac (Ln ag))
    exact ⟨g.length,Nat.lt_succ_self _,i119 + 1,g,_,o,j,ac,u,i,l,c.kp j,f⟩
  replace d:=ct aa d;refine S (G (R q 1 c j fun a c=>E (T (V (Xb (Xr (Xr (Xb (Xr (Xr ?_))))))))));cases d;obtain rfl:=Nr i;have d:=Le ah;cases d
  refine N (v:=_) c j ⟨_,_,_,j,f.nil,j,j⟩

theorem ref08_Catalog_Below.ok_all:∀ k,ref08_Catalog_Below.C (ref08_Catalog_Below k)
  | 0=>by first | (intro _ _ _ _ _ h;cases h;done) | (intro h;cases h)
  | k + 1=>by
    have h:=@ref08_Catalog_Below.ok_all k
    exact ref08_Catalog_Below.F_ok k (ref08_Catalog_Below k) @h

theorem ref08_Catalog_Below.ok (k:Nat):ref08_Catalog_Below.C (ref08_Catalog_Below k):=@ref08_Catalog_Below.ok_all k

theorem cl_42:Callable Tryz.prog 42:=⟨_,Tryz.func42,by kernel_rfl,by kernel_rfl⟩

def ref08_Catalog_table.C (s:Tref08_Catalog→TTable→Option (TRelation × Int × Tref08_Catalog)):Prop:=∀ {b x r},s b x=some r→∀ {d c n h g m o u e i f l t},Inv d c n c [.blk h [.pointer g,.slice m b.Tables.length o,.slice e b.Channels.length i,.slice f b.Principals.length l,i_ b.Limit] 36,.row (.slice m b.Tables.length o) 43 6 b.Tables.length u] d→(Pt c g 99 Tref03_Lattice.d b.L)→(RL c 6 (b.Tables.map TRelation.d) u)→(Sl c e i 2 (b.Channels.map TNamed.d))→(Sl c f l 2 (b.Principals.map TNamed.d))→(Rep c x.d t)→Calls Tryz.prog 42 #[(P h),.agg ⟨t⟩] d (Ret d c n fun G' L' v=>∃ p A0_1 c0_1 e0_1,L'=[.blk h [.pointer g,.slice A0_1 r.2.2.Tables.length c0_1,.slice e b.Channels.length i,.slice f b.Principals.length l,i_ b.Limit] 36,.row (.slice A0_1 r.2.2.Tables.length c0_1) 43 6 r.2.2.Tables.length e0_1]∧v = .tuple ⟨[.agg ⟨p⟩,i_ r.2.1]⟩∧Rep G' r.1.d p∧RL G' 6 (r.2.2.Tables.map TRelation.d) e0_1)
end Go.Proofs.YtknhbphhdfknaaaGreatDoor
