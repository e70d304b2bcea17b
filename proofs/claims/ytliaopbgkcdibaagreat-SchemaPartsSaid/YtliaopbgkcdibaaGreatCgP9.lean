/- The contracts: what the machine does at a call is what the plain function says. Written by mk.py. -/
import Derived.Test.YtliaopbgkcdibaaGreatCgP7
import Derived.Test.YtliaopbgkcdibaaGreatCgP8
set_option linter.unusedVariables false
set_option linter.unusedSimpArgs false
set_option maxRecDepth 100000
namespace Go.Proofs.YtliaopbgkcdibaaGreat
open Go.RowKit
theorem ref06_P_cmp.F_ok (k:Nat) (s_ref06_P_Expr:Tref06_P→Option (TExpr × Tref06_P)) (s_ref06_P_and:Tref06_P→Option (TExpr × Tref06_P)) (s_ref06_P_not:Tref06_P→Option (TExpr × Tref06_P)) (s_ref06_P_cmp:Tref06_P→Option (TExpr × Tref06_P)) (s_ref06_P_sum:Tref06_P→Option (TExpr × Tref06_P)) (s_ref06_P_Query:Tref06_P→Option (TQuery × Tref06_P)) (s_ref06_P_prod:Tref06_P→Option (TExpr × Tref06_P)) (s_ref06_P_part:Tref06_P→Option (TQuery × Tref06_P)) (s_ref06_P_unary:Tref06_P→Option (TExpr × Tref06_P)) (s_ref06_P_src:Tref06_P→Option (TFrom × Tref06_P)) (s_ref06_P_exprs:Tref06_P→Option ((List TExpr) × Tref06_P)) (s_ref06_P_prim:Tref06_P→Option (TExpr × Tref06_P)) (s_ref06_P_one:Tref06_P→Option (TFrom × Tref06_P)) (hs_ref06_P_Expr:ref06_P_Expr.C s_ref06_P_Expr) (hs_ref06_P_and:ref06_P_and.C s_ref06_P_and) (hs_ref06_P_not:ref06_P_not.C s_ref06_P_not) (hs_ref06_P_cmp:ref06_P_cmp.C s_ref06_P_cmp) (hs_ref06_P_sum:ref06_P_sum.C s_ref06_P_sum) (hs_ref06_P_Query:ref06_P_Query.C s_ref06_P_Query) (hs_ref06_P_prod:ref06_P_prod.C s_ref06_P_prod) (hs_ref06_P_part:ref06_P_part.C s_ref06_P_part) (hs_ref06_P_unary:ref06_P_unary.C s_ref06_P_unary) (hs_ref06_P_src:ref06_P_src.C s_ref06_P_src) (hs_ref06_P_exprs:ref06_P_exprs.C s_ref06_P_exprs) (hs_ref06_P_prim:ref06_P_prim.C s_ref06_P_prim) (hs_ref06_P_one:ref06_P_one.C s_ref06_P_one):ref06_P_cmp.C (ref06_P_cmp.F k s_ref06_P_Expr s_ref06_P_and s_ref06_P_not s_ref06_P_cmp s_ref06_P_sum s_ref06_P_Query s_ref06_P_prod s_ref06_P_part s_ref06_P_unary s_ref06_P_src s_ref06_P_exprs s_ref06_P_prim s_ref06_P_one):=by
  intro be r f a2 ak aj a7 a5 a8 d n
  unfold ref06_P_cmp.F at f
  refine Ci 53 Tryz.func92 j j j fun a c=>?_
  refine S (G (A d c j z_75 j j fun a w d7 c d=>E (T (S (G (R q 1 c j fun a c=>?_))))));have d:=d.pick [1,0] (by decide) j;obtain ⟨p,dd,f⟩:=bd f
  refine M 1 cl_93 d c j j (fun g=>hs_ref06_P_sum dd g n) j ?_;rintro a w _ bs _ ⟨ea,rfl,rfl,c1⟩ o d c;obtain ⟨ac,ae,ad,af,rfl,ag,ah⟩:=TExpr.inv.1 c1
  refine A d c j z_75 j j fun a w d5 c d=>W q 0 d c j j j j j j j j j j fun a w c d=>E (T (S (G (R q 1 c j fun a c=>Bs ai_22 d c j j j j j fun a w d6 c d=>?_))))
  have c4:RL bs 1 ([(⟨#[61]⟩:ByteArray),(⟨#[60,62]⟩:ByteArray),(⟨#[60,61]⟩:ByteArray),(⟨#[62,61]⟩:ByteArray),(⟨#[60]⟩:ByteArray),(⟨#[62]⟩:ByteArray)].map D.str) _:=(Rc (rep_str.2 j) j (Rc (rep_str.2 j) j (Rc (rep_str.2 j) j (Rc (rep_str.2 j) j (Rc (rep_str.2 j) j (Rc (rep_str.2 j) j Rn))))))
  obtain ⟨d0,i,d,cn⟩:=(d.front 0).giveR (xs:=([(⟨#[61]⟩:ByteArray),(⟨#[60,62]⟩:ByteArray),(⟨#[60,61]⟩:ByteArray),(⟨#[62,61]⟩:ByteArray),(⟨#[60]⟩:ByteArray),(⟨#[62]⟩:ByteArray)]).map D.str) (by simp) c4
  have d:=d.pick [1,0,2] (by decide) j;obtain ⟨dt,dm,f⟩:=bd f;refine M 1 cl_94 d c j j (fun g=>(ref06_P_oneOf.ok k) dm g (n.m (o.t i)) cn) j ?_
  rintro a w _ d1 _ ⟨rfl,rfl⟩ l d c
  refine R q 1 c j fun a c=>E (T (S (S (G (R q 2 c j fun a c=>E (T (Cc (b:=!decide (dt.1=(⟨#[]⟩:ByteArray))) c j (fun ax=>?_) (fun ax=>?_))))))))
  · replace f:=ct ax f
    refine S (Mx [1] [4,5] (.step 0 0 (.step 1 1 (.step 2 0 (.step 3 2 (.step 4 3 (.step 5 3 .nil)))))) mixed (by kernel_rfl) d (by decide) j fun w d hS=>H q 1 c j fun a c=>Dd hS c j j (Rw fun _=>(B q 0 j j j j)) j fun a c=>H q 1 c j fun a c=>Df j ?_)
    obtain ⟨ei,dn,f⟩:=bd f;refine M 1 cl_93 d c j j (fun g=>hs_ref06_P_sum dn g (n.m ((o.t i).t l))) j ?_;rintro a w _ d2 _ ⟨eb,rfl,rfl,c5⟩ a1 d c
    obtain ⟨bn,b6,bo,b7,rfl,co,cp⟩:=TExpr.inv.1 c5;refine De (d.sw [1] (by decide) j a1) fun hS=>Dl j ?_;obtain ⟨ej,dp,f⟩:=bd f
    refine J cl_90 d c j j ((ref06_bin.ok k) dp d.pass0 (TExpr.inv.2 ⟨ac,ae,ad,af,j,(ag.m ((i.t l).t a1)),(ah.m ((i.t l).t a1))⟩) (TExpr.inv.2 ⟨bn,b6,bo,b7,j,co,cp⟩)) j ?_
    rintro a w _ d3 _ ⟨rfl,d8,rfl,cv⟩ ed d c;obtain ⟨bp,b8,bq,b9,rfl,cq,cr⟩:=TExpr.inv.1 cv
    refine Dn (Dl j (W q 2 d c j j j j j j j j j j fun a w c d=>Dn (Dz (T (V (Xr ?_))))));cases f
    refine U q c d (.cell 2 j j j j .nil) j ⟨_,_,_,j,(d.pick [0] (by decide) j),_,j,j,(TExpr.inv.2 ⟨bp,b8,bq,b9,j,cq,cr⟩)⟩
  replace f:=cf ax f;refine K (T (S (S (G (R q 1 c j fun a c=>?_)))));obtain ⟨a3,da,f⟩:=bd f
  refine M 1 cl_61 d c j j (fun g=>(ref06_P_take.ok k) da g (n.m ((o.t i).t l))) j ?_;rintro a w _ al _ ⟨rfl,rfl⟩ m d c
  refine E (T (Cc (b:=a3.1) c j (fun aw=>?_) (fun aw=>?_)))
  · replace f:=ct aw f;refine S (G (R q 1 c j fun a c=>E (T (S (S (G (R q 1 c j fun a c=>?_)))))));obtain ⟨dq,db,f⟩:=bd f
    refine M 1 cl_61 d c j j (fun g=>(ref06_P_take.ok k) db g (n.m (((o.t i).t l).t m))) j ?_;rintro a w _ am _ ⟨rfl,rfl⟩ ay d c;refine E (T ?_)
    obtain ⟨ba,f,cw⟩:=bd f;refine X c d (fun e L a' w'=>∃ an,am.le an∧Env a' 53 (sl e [0,2,3] [(5,i_ ba)])∧Inv a2 ak aj an L w') ?_ ?_
    · refine Cc (b:=dq.1) c j (fun ar=>?_) (fun ar=>?_);rotate_left
      · replace f:=cf ar f;refine K (T ?_);cases f;exact ⟨am,rf,c.kp j,d⟩
      replace f:=ct ar f;refine G (R q 1 c j fun a c=>E (T ?_));cases f;exact ⟨am,rf,c.kp j,d⟩
    rintro a w ⟨an,az,c,d⟩;have f:=cw;refine T (S (G (R q 1 c j fun a c=>?_)));obtain ⟨ee,dc,f⟩:=bd f
    refine M 1 cl_64 d c j j (fun g=>(ref06_P_must.ok k) dc g (n.m (((((o.t i).t l).t m).t ay).t az))) j ?_;rintro a w _ br _ ⟨rfl,rfl⟩ a9 d c
    refine E (T (S (G (R q 1 c j fun a c=>L d c j (B q 1 j j j j) j fun a c=>Bs ai_49 d c j j j j j fun a w bv c d=>?_))))
    have cx:RL br 6 ([p.1].map TExpr.d) _:=(Rc (TExpr.inv.2 ⟨ac,ae,ad,af,j,(ag.m (((((i.t l).t m).t ay).t az).t a9)),(ah.m (((((i.t l).t m).t ay).t az).t a9))⟩) j Rn)
    refine L d c j (Bd q j z_75 j j) j fun a c=>W q 3 d c j j j j j j j j j j fun a w c d=>E (T ?_)
    obtain ⟨du,ec,d,ca⟩:=(d.front 0).giveR (xs:=([p.1]).map TExpr.d) (by simp) cx;refine V (Xr ?_);cases f
    refine U q c d (.cell 2 j j j j .nil) j ⟨_,_,_,j,(d.pick [0] (by decide) j),_,j,j,((TExpr.inv (x:=(TExpr.mk (9:Int) ba (⟨#[]⟩:ByteArray) (⟨#[]⟩:ByteArray) ([p.1]) []))).2 ⟨(p_ bv),1,none,0,j,ca,(Sn _ _ _ _ (Nat.zero_le _))⟩)⟩
  replace f:=cf aw f;refine K (T (S (S ?_)));obtain ⟨bb,f,cy⟩:=bd f
  refine X c d (fun e L a' w'=>∃ ao,al.le ao∧Env a' 53 (sl e [0,2,3] [(35,.bool bb)])∧Inv a2 ak aj ao L w') ?_ ?_
  · refine G (R q 1 c j fun a c=>?_);obtain ⟨bf,dk,f⟩:=bd f
    refine Cl (S:=fun _ L' u=>L'=[]∧u = .bool bf) cl_65 d c j j (by obtain ⟨bt,c8,d,cs⟩:=(d.front 0).giveB;have cl:Pt bt (p_ a7) 105 Tref06_P.d (some (Tref06_P.mk be.T a3.2.I p.2.Deep p.2.At p.2.E)):=Pm (Tref06_P.inv.2 ⟨a5,a8,j,(n.m ((((o.t i).t l).t m).t c8))⟩) cs;exact ⟨_,(ref06_P_is.ok k) dk d.pass0 cl⟩) (fun _ _ _ h=>h.2) j ?_
    intro a w d c;refine R q 1 c j fun a c=>?_;rcases Bo bf with aa | aa
    · replace f:=ct aa f;have c:=c.tr (t:=32) j aa;refine R q 3 c j fun a c=>E (T ?_);cases f;exact ⟨al,rf,c.kp j,d⟩
    replace f:=cf aa f;have c:=c.tr (t:=32) j aa;refine R q 1 c j fun a c=>?_;obtain ⟨ds,dl,f⟩:=bd f
    refine Cl (S:=fun _ L' u=>L'=[]∧u = .bool ds) cl_65 d c j j (by obtain ⟨bu,c9,d,cu⟩:=(d.front 0).giveB;have cm:Pt bu (p_ a7) 105 Tref06_P.d (some (Tref06_P.mk be.T a3.2.I p.2.Deep p.2.At p.2.E)):=Pm (Tref06_P.inv.2 ⟨a5,a8,j,(n.m ((((o.t i).t l).t m).t c9))⟩) cu;exact ⟨_,(ref06_P_is.ok k) dl d.pass0 cm⟩) (fun _ _ _ h=>h.2) j ?_
    intro a w d c;refine R q 1 c j fun a c=>E (T ?_);cases f;exact ⟨al,rf,c.kp j,d⟩
  rintro a w ⟨ao,s,c,d⟩;have f:=cy;refine T (Cc (b:=bb) c j (fun av=>?_) (fun av=>?_));rotate_left
  · replace f:=cf av f
    refine K (T (S (G (L d c j (B q 1 j j j j) j fun a c=>W q 2 d c j j j j j j j j j j fun a w c d=>E (T (V ?_))))));cases f
    refine U q c d (.cell 2 j j j j .nil) j ⟨_,_,_,j,(d.pick [0] (by decide) j),_,j,j,(TExpr.inv.2 ⟨ac,ae,ad,af,j,(ag.m (((i.t l).t m).t s)),(ah.m (((i.t l).t m).t s))⟩)⟩
  replace f:=ct av f;refine S (G (R q 1 c j fun a c=>E (T (S (S (G (R q 1 c j fun a c=>?_)))))));obtain ⟨dr,de,f⟩:=bd f
  refine M 1 cl_61 d c j j (fun g=>(ref06_P_take.ok k) de g (n.m ((((o.t i).t l).t m).t s))) j ?_;rintro a w _ ap _ ⟨rfl,rfl⟩ y d c;refine E (T ?_)
  obtain ⟨bc,f,cz⟩:=bd f;refine X c d (fun e L a' w'=>∃ aq,ap.le aq∧Env a' 53 (sl e [0,2,3] [(6,i_ bc)])∧Inv a2 ak aj aq L w') ?_ ?_
  · refine Cc (b:=dr.1) c j (fun au=>?_) (fun au=>?_);rotate_left
    · replace f:=cf au f;refine K (T ?_);cases f;exact ⟨ap,rf,c.kp j,d⟩
    replace f:=ct au f;refine G (R q 1 c j fun a c=>E (T ?_));cases f;exact ⟨ap,rf,c.kp j,d⟩
  rintro a w ⟨aq,z,c,d⟩;have f:=cz;refine T (S (G (R q 1 c j fun a c=>?_)));obtain ⟨ef,df,f⟩:=bd f
  refine M 1 cl_64 d c j j (fun g=>(ref06_P_must.ok k) df g (n.m ((((((o.t i).t l).t m).t s).t y).t z))) j ?_
  rintro a w _ dv _ ⟨rfl,rfl⟩ ab d c;refine E (T (S (G (R q 1 c j fun a c=>?_))));obtain ⟨eg,dg,f⟩:=bd f
  refine M 1 cl_64 d c j j (fun g=>(ref06_P_must.ok k) dg g (n.m (((((((o.t i).t l).t m).t s).t y).t z).t ab))) j ?_
  rintro a w _ dw _ ⟨rfl,rfl⟩ ai d c;refine E (T (S (G (R q 1 c j fun a c=>?_))));obtain ⟨a4,dh,f⟩:=bd f
  refine M 1 cl_95 d c j j (fun g=>hs_ref06_P_Query dh g (n.m ((((((((o.t i).t l).t m).t s).t y).t z).t ab).t ai))) j ?_
  rintro a w _ dx _ ⟨d9,rfl,rfl,c0⟩ a0 d c;obtain ⟨bg,bz,bh,b0,bi,b1,bj,b2,bk,b3,bl,b4,bm,b5,rfl,cb,cc,cd,ce,cg,ch,ci⟩:=TQuery.inv.1 c0
  refine A d c j z_127 j j fun a w d4 c d=>W q 0 d c j j j j j j j j j j fun a w c d=>E (T (S (G (R q 1 c j fun a c=>?_))))
  have d:=d.pick [1,0,2,3] (by decide) j;obtain ⟨eh,dj,f⟩:=bd f
  refine M 1 cl_64 d c j j (fun g=>(ref06_P_must.ok k) dj g (n.m (((((((((o.t i).t l).t m).t s).t y).t z).t ab).t ai).t a0))) j ?_
  rintro a w _ a6 _ ⟨rfl,rfl⟩ v d c
  refine E (T (S (G (R q 1 c j fun a c=>L d c j (B q 2 j j j j) j fun a c=>Bs ai_49 d c j j j j j fun a w bw c d=>?_))))
  have c2:RL a6 6 ([p.1].map TExpr.d) _:=(Rc (TExpr.inv.2 ⟨ac,ae,ad,af,j,(ag.m (((((((((i.t l).t m).t s).t y).t z).t ab).t ai).t a0).t v)),(ah.m (((((((((i.t l).t m).t s).t y).t z).t ab).t ai).t a0).t v))⟩) j Rn)
  refine L d c j (B q 2 j j j j) j fun a c=>Bs ai_73 d c j j j j j fun a w bx c d=>?_
  have c3:RL a6 10 ([a4.1].map TQuery.d) _:=(Rc (TQuery.inv.2 ⟨bg,bz,bh,b0,bi,b1,bj,b2,bk,b3,bl,b4,bm,b5,j,(cb.m v),(cc.m v),(cd.m v),(ce.m v),(cg.m v),(ch.m v),(ci.m v)⟩) j Rn)
  refine L d c j (Bd q j z_75 j j) j fun a c=>W q 5 d c j j j j j j j j j j fun a w c d=>E (T ?_)
  obtain ⟨dy,c6,d,cj⟩:=(d.front 1).giveR (xs:=([p.1]).map TExpr.d) (by simp) c2;obtain ⟨dz,c7,d,ck⟩:=(d.front 0).giveR (xs:=([a4.1]).map TQuery.d) (by simp) (c3.m c6)
  refine V (Xr ?_);cases f
  refine U q c d (.cell 3 j j j j .nil) j ⟨_,_,_,j,(d.pick [0] (by decide) j),_,j,j,((TExpr.inv (x:=(TExpr.mk (13:Int) bc (⟨#[]⟩:ByteArray) (⟨#[]⟩:ByteArray) ([p.1]) ([a4.1])))).2 ⟨(p_ bw),1,(p_ bx),1,j,(cj.m c7),ck⟩)⟩

theorem ref06_P_sum.F_ok (k:Nat) (s_ref06_P_Expr:Tref06_P→Option (TExpr × Tref06_P)) (s_ref06_P_and:Tref06_P→Option (TExpr × Tref06_P)) (s_ref06_P_not:Tref06_P→Option (TExpr × Tref06_P)) (s_ref06_P_cmp:Tref06_P→Option (TExpr × Tref06_P)) (s_ref06_P_sum:Tref06_P→Option (TExpr × Tref06_P)) (s_ref06_P_Query:Tref06_P→Option (TQuery × Tref06_P)) (s_ref06_P_prod:Tref06_P→Option (TExpr × Tref06_P)) (s_ref06_P_part:Tref06_P→Option (TQuery × Tref06_P)) (s_ref06_P_unary:Tref06_P→Option (TExpr × Tref06_P)) (s_ref06_P_src:Tref06_P→Option (TFrom × Tref06_P)) (s_ref06_P_exprs:Tref06_P→Option ((List TExpr) × Tref06_P)) (s_ref06_P_prim:Tref06_P→Option (TExpr × Tref06_P)) (s_ref06_P_one:Tref06_P→Option (TFrom × Tref06_P)) (hs_ref06_P_Expr:ref06_P_Expr.C s_ref06_P_Expr) (hs_ref06_P_and:ref06_P_and.C s_ref06_P_and) (hs_ref06_P_not:ref06_P_not.C s_ref06_P_not) (hs_ref06_P_cmp:ref06_P_cmp.C s_ref06_P_cmp) (hs_ref06_P_sum:ref06_P_sum.C s_ref06_P_sum) (hs_ref06_P_Query:ref06_P_Query.C s_ref06_P_Query) (hs_ref06_P_prod:ref06_P_prod.C s_ref06_P_prod) (hs_ref06_P_part:ref06_P_part.C s_ref06_P_part) (hs_ref06_P_unary:ref06_P_unary.C s_ref06_P_unary) (hs_ref06_P_src:ref06_P_src.C s_ref06_P_src) (hs_ref06_P_exprs:ref06_P_exprs.C s_ref06_P_exprs) (hs_ref06_P_prim:ref06_P_prim.C s_ref06_P_prim) (hs_ref06_P_one:ref06_P_one.C s_ref06_P_one):ref06_P_sum.C (ref06_P_sum.F k s_ref06_P_Expr s_ref06_P_and s_ref06_P_not s_ref06_P_cmp s_ref06_P_sum s_ref06_P_Query s_ref06_P_prod s_ref06_P_part s_ref06_P_unary s_ref06_P_src s_ref06_P_exprs s_ref06_P_prim s_ref06_P_one):=by
  intro al r f ay ao an ap am ar d ac
  unfold ref06_P_sum.F at f
  refine Ci 21 Tryz.func93 j j j fun a c=>?_
  refine S (G (A d c j z_75 j j fun a w b6 c d=>E (T (S (G (R q 1 c j fun a c=>?_))))));have d:=d.pick [1,0] (by decide) j;obtain ⟨cc,bv,f⟩:=bd f
  refine M 1 cl_96 d c j j (fun i=>hs_ref06_P_prod bv i ac) j ?_;rintro a w _ a5 _ ⟨b7,rfl,rfl,bq⟩ ai d c;obtain ⟨az,a8,a0,a9,rfl,bf,bg⟩:=TExpr.inv.1 bq
  refine A d c j z_75 j j fun a w aq c d=>W q 0 d c j j j j j j j j j j fun a w c d=>E (T (S (G (R q 1 c j fun a c=>Bs ai_22 d c j j j j j fun a w b4 c d=>?_))))
  have br:RL a5 1 ([(⟨#[43]⟩:ByteArray),(⟨#[45]⟩:ByteArray),(⟨#[124,124]⟩:ByteArray)].map D.str) _:=(Rc (rep_str.2 j) j (Rc (rep_str.2 j) j (Rc (rep_str.2 j) j Rn)))
  obtain ⟨b1,u,d,bj⟩:=(d.front 0).giveR (xs:=([(⟨#[43]⟩:ByteArray),(⟨#[45]⟩:ByteArray),(⟨#[124,124]⟩:ByteArray)]).map D.str) (by simp) br;have d:=d.pick [1,0,2] (by decide) j
  obtain ⟨cd,bw,f⟩:=bd f;refine M 1 cl_94 d c j j (fun i=>(ref06_P_oneOf.ok k) bw i (ac.m (ai.t u)) bj) j ?_;rintro a w _ ag _ ⟨rfl,rfl⟩ ae d c
  refine R q 1 c j fun a c=>E (T (S ?_));obtain ⟨ax,l,bp⟩:=bd f
  refine X c d (fun e L a' w'=>∃ h p y aa z ab,ax = .go h∧ag.le p∧Env a' 21 (sl e [2,3] [])∧Inv ay ao an p [.blk ap [.slice am al.T.length ar,i_ h.2.1,i_ h.2.2.1,i_ h.2.2.2.1,i_ h.2.2.2.2.1] 105,.blk aq [i_ h.2.2.2.2.2.1,i_ h.2.2.2.2.2.2.1,.string h.2.2.2.2.2.2.2.1,.string h.2.2.2.2.2.2.2.2.1,.slice y h.2.2.2.2.2.2.2.2.2.1.length aa,.slice z h.2.2.2.2.2.2.2.2.2.2.length ab] 75,nt L 2] w'∧Sl p y aa 6 (h.2.2.2.2.2.2.2.2.2.1.map TExpr.d)∧Sl p z ab 10 (h.2.2.2.2.2.2.2.2.2.2.map TQuery.d)) ?_ ?_
  rotate_left
  · rintro a w ⟨h,p,y,aa,z,ab,rfl,ca,c,d,bh,bi⟩;have f:=Lg bp
    refine T (S (G (L d c j (B q 1 j j j j) j fun a c=>W q 2 d c j j j j j j j j j j fun a w c d=>E (T (V ?_)))));cases f
    refine U q c d (.cell 2 j j j j .nil) j ⟨_,_,_,j,(d.pick [0] (by decide) j),_,j,j,((TExpr.inv (x:=(TExpr.mk h.2.2.2.2.2.1 h.2.2.2.2.2.2.1 h.2.2.2.2.2.2.2.1 h.2.2.2.2.2.2.2.2.1 h.2.2.2.2.2.2.2.2.2.1 h.2.2.2.2.2.2.2.2.2.2))).2 ⟨y,aa,z,ab,j,bh,bi⟩)⟩
  
  refine O (Q c d (fun e L n' a' w'=>∃ g m n s o t,whileL (ref06_P_sum.b0 k s_ref06_P_Expr s_ref06_P_and s_ref06_P_not s_ref06_P_cmp s_ref06_P_sum s_ref06_P_Query s_ref06_P_prod s_ref06_P_part s_ref06_P_unary s_ref06_P_src s_ref06_P_exprs s_ref06_P_prim s_ref06_P_one al) n' g=some ax∧ag.le m∧Env a' 21 (sl e [0,2,3] [(4,.string g.1)])∧Inv ay ao an m [.blk ap [.slice am al.T.length ar,i_ g.2.1,i_ g.2.2.1,i_ g.2.2.2.1,i_ g.2.2.2.2.1] 105,.blk aq [i_ g.2.2.2.2.2.1,i_ g.2.2.2.2.2.2.1,.string g.2.2.2.2.2.2.2.1,.string g.2.2.2.2.2.2.2.2.1,.slice n g.2.2.2.2.2.2.2.2.2.1.length s,.slice o g.2.2.2.2.2.2.2.2.2.2.length t] 75,nt L 2] w'∧Sl m n s 6 (g.2.2.2.2.2.2.2.2.2.1.map TExpr.d)∧Sl m o t 10 (g.2.2.2.2.2.2.2.2.2.2.map TQuery.d)) _ ⟨_,ag,az,a8,a0,a9,l,rf,c.kp j,d,(bf.m (u.t ae)),(bg.m (u.t ae))⟩ ?_)
  rintro ak a w ⟨g,m,n,s,o,t,l,ad,c,d,au,av⟩;rcases ak with _ | ak
  · cases l
  obtain ⟨cb,f,l⟩:=Wh l;unfold ref06_P_sum.b0 at f
  refine S (S (G (R q 2 c j fun a c=>E (T (Cc (b:=!decide (g.1=(⟨#[]⟩:ByteArray))) c j (fun ah=>?_) (fun ah=>?_))))));rotate_left
  · replace f:=cf ah f;refine Ex (Xe (Xe (Xh (T ?_))));cases f;obtain rfl:=Wb l;exact ⟨_,m,n,s,o,t,j,ad,c.kp j,d,au,av⟩
  replace f:=ct ah f
  refine K (T (O (S (Mx [1] [4,5] (.step 0 0 (.step 1 1 (.step 2 0 (.step 3 2 (.step 4 3 (.step 5 3 .nil)))))) mixed (by kernel_rfl) d (by decide) j fun w d hS=>H q 1 c j fun a c=>Dd hS c j j (Rw fun _=>(B q 0 j j j j)) j fun a c=>H q 1 c j fun a c=>Df j ?_))))
  obtain ⟨ce,bx,f⟩:=bd f;refine M 1 cl_96 d c j j (fun i=>hs_ref06_P_prod bx i (ac.m (((ai.t u).t ae).t ad))) j ?_
  rintro a w _ b2 _ ⟨b8,rfl,rfl,bs⟩ v d c;obtain ⟨a1,ba,a2,bb,rfl,bk,bl⟩:=TExpr.inv.1 bs;refine De (d.sw [1] (by decide) j v) fun hS=>Dl j ?_
  obtain ⟨cg,bz,f⟩:=bd f
  refine J cl_90 d c j j ((ref06_bin.ok k) bz d.pass0 ((TExpr.inv (x:=(TExpr.mk g.2.2.2.2.2.1 g.2.2.2.2.2.2.1 g.2.2.2.2.2.2.2.1 g.2.2.2.2.2.2.2.2.1 g.2.2.2.2.2.2.2.2.2.1 g.2.2.2.2.2.2.2.2.2.2))).2 ⟨n,s,o,t,j,(au.m v),(av.m v)⟩) (TExpr.inv.2 ⟨a1,ba,a2,bb,j,bk,bl⟩)) j ?_
  rintro a w _ a6 _ ⟨rfl,b9,rfl,bt⟩ aw d c;obtain ⟨a3,bc,a4,be,rfl,bm,bn⟩:=TExpr.inv.1 bt
  refine Dn (Dl j (W q 1 d c j j j j j j j j j j fun a w c d=>Dn (Dz (T (G (R q 1 c j fun a c=>Bs ai_22 d c j j j j j fun a w b5 c d=>?_))))))
  have bu:RL a6 1 ([(⟨#[43]⟩:ByteArray),(⟨#[45]⟩:ByteArray),(⟨#[124,124]⟩:ByteArray)].map D.str) _:=(Rc (rep_str.2 j) j (Rc (rep_str.2 j) j (Rc (rep_str.2 j) j Rn)))
  obtain ⟨b3,af,d,bo⟩:=(d.front 0).giveR (xs:=([(⟨#[43]⟩:ByteArray),(⟨#[45]⟩:ByteArray),(⟨#[124,124]⟩:ByteArray)]).map D.str) (by simp) bu;obtain ⟨ch,b0,f⟩:=bd f
  refine M 1 cl_94 d c j j (fun i=>(ref06_P_oneOf.ok k) b0 i (ac.m ((((((ai.t u).t ae).t ad).t v).t aw).t af)) bo) j ?_
  rintro a w _ a7 _ ⟨rfl,rfl⟩ aj d c;refine R q 1 c j fun a c=>E (xB (T ?_));cases f
  exact ⟨ak,Nat.lt_succ_self _,_,a7,a3,bc,a4,be,l,((((ad.t v).t aw).t af).t aj),c.kp j,d,(bm.m (af.t aj)),(bn.m (af.t aj))⟩

theorem ref06_P_Query.F_ok (k:Nat) (s_ref06_P_Expr:Tref06_P→Option (TExpr × Tref06_P)) (s_ref06_P_and:Tref06_P→Option (TExpr × Tref06_P)) (s_ref06_P_not:Tref06_P→Option (TExpr × Tref06_P)) (s_ref06_P_cmp:Tref06_P→Option (TExpr × Tref06_P)) (s_ref06_P_sum:Tref06_P→Option (TExpr × Tref06_P)) (s_ref06_P_Query:Tref06_P→Option (TQuery × Tref06_P)) (s_ref06_P_prod:Tref06_P→Option (TExpr × Tref06_P)) (s_ref06_P_part:Tref06_P→Option (TQuery × Tref06_P)) (s_ref06_P_unary:Tref06_P→Option (TExpr × Tref06_P)) (s_ref06_P_src:Tref06_P→Option (TFrom × Tref06_P)) (s_ref06_P_exprs:Tref06_P→Option ((List TExpr) × Tref06_P)) (s_ref06_P_prim:Tref06_P→Option (TExpr × Tref06_P)) (s_ref06_P_one:Tref06_P→Option (TFrom × Tref06_P)) (hs_ref06_P_Expr:ref06_P_Expr.C s_ref06_P_Expr) (hs_ref06_P_and:ref06_P_and.C s_ref06_P_and) (hs_ref06_P_not:ref06_P_not.C s_ref06_P_not) (hs_ref06_P_cmp:ref06_P_cmp.C s_ref06_P_cmp) (hs_ref06_P_sum:ref06_P_sum.C s_ref06_P_sum) (hs_ref06_P_Query:ref06_P_Query.C s_ref06_P_Query) (hs_ref06_P_prod:ref06_P_prod.C s_ref06_P_prod) (hs_ref06_P_part:ref06_P_part.C s_ref06_P_part) (hs_ref06_P_unary:ref06_P_unary.C s_ref06_P_unary) (hs_ref06_P_src:ref06_P_src.C s_ref06_P_src) (hs_ref06_P_exprs:ref06_P_exprs.C s_ref06_P_exprs) (hs_ref06_P_prim:ref06_P_prim.C s_ref06_P_prim) (hs_ref06_P_one:ref06_P_one.C s_ref06_P_one):ref06_P_Query.C (ref06_P_Query.F k s_ref06_P_Expr s_ref06_P_and s_ref06_P_not s_ref06_P_cmp s_ref06_P_sum s_ref06_P_Query s_ref06_P_prod s_ref06_P_part s_ref06_P_unary s_ref06_P_src s_ref06_P_exprs s_ref06_P_prim s_ref06_P_one):=by
  intro ad r f bj a8 a7 af ae ag d s
  unfold ref06_P_Query.F at f
  refine Ci 61 Tryz.func95 j j j fun a c=>?_
  refine S (G (A d c j z_127 j j fun a w ex c d=>E (T (S (G (R q 1 c j fun a c=>?_))))));have d:=d.pick [1,0] (by decide) j;obtain ⟨er,ei,f⟩:=bd f
  refine M 1 cl_88 d c j j (fun n=>(ref06_P_down.ok k) ei n s) j ?_;rintro a w _ ew _ ⟨rfl,rfl⟩ z d c
  refine E (T (S (S (G (R q 3 c j fun a c=>L d c j (B q 0 j j j j) j fun a c=>R q 1 c j fun a c=>E (T (Cc (b:=!decide (er.E=(0:Int))) c j (fun bq=>?_) (fun bq=>?_))))))))
  · replace f:=ct bq f
    refine S (G (R q 3 c j fun a c=>L d c j (B q 0 j j j j) j fun a c=>R q 3 c j fun a c=>W q 0 d c j j j j j j j j j j fun a w c d=>E (T (S (G (L d c j (Bd q j z_127 j j) j fun a c=>W q 1 d c j j j j j j j j j j fun a w c d=>E (T (V (Xr ?_)))))))))
    cases f
    refine U q c d (.cell 1 j j j j .nil) j ⟨_,_,_,j,(d.pick [0] (by decide) j),_,j,j,((TQuery.inv (x:=(TQuery.mk (0:Int) false [] [] [] [] [] [] (0:Int) []))).2 ⟨none,0,none,0,none,0,none,0,none,0,none,0,none,0,j,(Sn _ _ _ _ (Nat.zero_le _)),(Sn _ _ _ _ (Nat.zero_le _)),(Sn _ _ _ _ (Nat.zero_le _)),(Sn _ _ _ _ (Nat.zero_le _)),(Sn _ _ _ _ (Nat.zero_le _)),(Sn _ _ _ _ (Nat.zero_le _)),(Sn _ _ _ _ (Nat.zero_le _))⟩)⟩
  replace f:=cf bq f;refine K (T (S (G (R q 1 c j fun a c=>?_))));obtain ⟨e2,eh,f⟩:=bd f
  refine M 1 cl_97 d c j j (fun n=>hs_ref06_P_part eh n (s.m z)) j ?_;rintro a w _ bk _ ⟨ey,rfl,rfl,d7⟩ ab d c
  obtain ⟨b9,cy,ca,cz,cb,c0,cc,c1,cd,c2,ce,c3,cg,c4,rfl,dc,dd,de,df,dg,dh,dj⟩:=TQuery.inv.1 d7
  refine A d c j z_127 j j fun a w bu c d=>W q 0 d c j j j j j j j j j j fun a w c d=>E (T (S ?_));obtain ⟨b5,ac,d6⟩:=bd f
  refine X c d (fun e L a' w'=>∃ i p a0 ba a1 bb a2 bc a3 be a4 bf a5 bg a6 bh,b5 = .go i∧bk.le p∧Env a' 61 (sl e [0,2,3] [])∧Inv bj a8 a7 p [.blk bu [i_ i.1,.bool i.2.1,.slice a0 i.2.2.1.length ba,.slice a1 i.2.2.2.1.length bb,.slice a2 i.2.2.2.2.1.length bc,.slice a3 i.2.2.2.2.2.1.length be,.slice a4 i.2.2.2.2.2.2.1.length bf,.slice a5 i.2.2.2.2.2.2.2.1.length bg,i_ i.2.2.2.2.2.2.2.2.1,.slice a6 i.2.2.2.2.2.2.2.2.2.1.length bh] 127,.blk af [.slice ae ad.T.length ag,i_ i.2.2.2.2.2.2.2.2.2.2.1,i_ i.2.2.2.2.2.2.2.2.2.2.2.1,i_ i.2.2.2.2.2.2.2.2.2.2.2.2.1,i_ i.2.2.2.2.2.2.2.2.2.2.2.2.2] 105,nt L 2] w'∧Sl p a0 ba 7 (i.2.2.1.map TItem.d)∧Sl p a1 bb 7 (i.2.2.2.1.map TFrom.d)∧Sl p a2 bc 6 (i.2.2.2.2.1.map TExpr.d)∧Sl p a3 be 6 (i.2.2.2.2.2.1.map TExpr.d)∧Sl p a4 bf 6 (i.2.2.2.2.2.2.1.map TExpr.d)∧Sl p a5 bg 7 (i.2.2.2.2.2.2.2.1.map TKey.d)∧Sl p a6 bh 10 (i.2.2.2.2.2.2.2.2.2.1.map TQuery.d)) ?_ ?_
  rotate_left
  · rintro a w ⟨i,p,a0,ba,a1,bb,a2,bc,a3,be,a4,bf,a5,bg,a6,bh,rfl,e0,c,d,dk,dl,dm,dn,dp,dq,dr⟩;have f:=Lg d6
    refine T (S (G (R q 3 c j fun a c=>L d c j (B q 1 j j j j) j fun a c=>R q 3 c j fun a c=>W q 1 d c j j j j j j j j j j fun a w c d=>E (T (S (G (L d c j (B q 0 j j j j) j fun a c=>W q 2 d c j j j j j j j j j j fun a w c d=>E (T (V ?_)))))))))
    cases f
    refine U q c d (.cell 2 j j j j .nil) j ⟨_,_,_,j,(d.pick [1] (by decide) j),_,j,j,((TQuery.inv (x:=(TQuery.mk i.1 i.2.1 i.2.2.1 i.2.2.2.1 i.2.2.2.2.1 i.2.2.2.2.2.1 i.2.2.2.2.2.2.1 i.2.2.2.2.2.2.2.1 i.2.2.2.2.2.2.2.2.1 i.2.2.2.2.2.2.2.2.2.1))).2 ⟨a0,ba,a1,bb,a2,bc,a3,be,a4,bf,a5,bg,a6,bh,j,dk,dl,dm,dn,dp,dq,dr⟩)⟩
  
  refine O (Q c d (fun e L n' a' w'=>∃ g m ah ao ai ap aj aq ak ar al au am av an aw,whileL (ref06_P_Query.b0 k s_ref06_P_Expr s_ref06_P_and s_ref06_P_not s_ref06_P_cmp s_ref06_P_sum s_ref06_P_Query s_ref06_P_prod s_ref06_P_part s_ref06_P_unary s_ref06_P_src s_ref06_P_exprs s_ref06_P_prim s_ref06_P_one ad) n' g=some b5∧bk.le m∧Env a' 61 (sl e [0,2,3] [])∧Inv bj a8 a7 m [.blk bu [i_ g.1,.bool g.2.1,.slice ah g.2.2.1.length ao,.slice ai g.2.2.2.1.length ap,.slice aj g.2.2.2.2.1.length aq,.slice ak g.2.2.2.2.2.1.length ar,.slice al g.2.2.2.2.2.2.1.length au,.slice am g.2.2.2.2.2.2.2.1.length av,i_ g.2.2.2.2.2.2.2.2.1,.slice an g.2.2.2.2.2.2.2.2.2.1.length aw] 127,.blk af [.slice ae ad.T.length ag,i_ g.2.2.2.2.2.2.2.2.2.2.1,i_ g.2.2.2.2.2.2.2.2.2.2.2.1,i_ g.2.2.2.2.2.2.2.2.2.2.2.2.1,i_ g.2.2.2.2.2.2.2.2.2.2.2.2.2] 105,nt L 2] w'∧Sl m ah ao 7 (g.2.2.1.map TItem.d)∧Sl m ai ap 7 (g.2.2.2.1.map TFrom.d)∧Sl m aj aq 6 (g.2.2.2.2.1.map TExpr.d)∧Sl m ak ar 6 (g.2.2.2.2.2.1.map TExpr.d)∧Sl m al au 6 (g.2.2.2.2.2.2.1.map TExpr.d)∧Sl m am av 7 (g.2.2.2.2.2.2.2.1.map TKey.d)∧Sl m an aw 10 (g.2.2.2.2.2.2.2.2.2.1.map TQuery.d)) _ ⟨_,bk,b9,cy,ca,cz,cb,c0,cc,c1,cd,c2,ce,c3,cg,c4,ac,rf,c.kp j,d,dc,dd,de,df,dg,dh,dj⟩ ?_)
  rintro bs a w ⟨g,m,ah,ao,ai,ap,aj,aq,ak,ar,al,au,am,av,an,aw,ac,v,c,d,bv,bw,bx,bz,b0,b1,b2⟩;rcases bs with _ | bs
  · cases ac
  obtain ⟨e1,f,ac⟩:=Wh ac;unfold ref06_P_Query.b0 at f;refine S (S ?_);obtain ⟨b4,f,d8⟩:=bd f
  refine X c d (fun e L a' w'=>∃ a9,m.le a9∧Env a' 61 (sl e [0,2,3] [(38,.bool b4)])∧Inv bj a8 a7 a9 L w') ?_ ?_
  · refine G (R q 3 c j fun a c=>L d c j (B q 1 j j j j) j fun a c=>R q 2 c j fun a c=>?_)
    rcases Bo (decide (g.2.2.2.2.2.2.2.2.2.2.2.2.2=(0:Int))) with ax | ax;rotate_left
    · replace f:=cf ax f;have c:=c.tr (t:=27) j ax;refine R q 11 c j fun a c=>E (T ?_);cases f;exact ⟨m,rf,c.kp j,d⟩
    replace f:=ct ax f;have c:=c.tr (t:=27) j ax;refine R q 1 c j fun a c=>?_;obtain ⟨b7,eo,f⟩:=bd f
    refine Cl (S:=fun _ L' u=>L'=[]∧u = .bool b7) cl_65 d c j j (by obtain ⟨cu,ee,d,d3⟩:=(d.front 1).giveB;have d0:Pt cu (p_ af) 105 Tref06_P.d (some (Tref06_P.mk ad.T g.2.2.2.2.2.2.2.2.2.2.1 g.2.2.2.2.2.2.2.2.2.2.2.1 g.2.2.2.2.2.2.2.2.2.2.2.2.1 g.2.2.2.2.2.2.2.2.2.2.2.2.2)):=Pm (Tref06_P.inv.2 ⟨ae,ag,j,(s.m (((z.t ab).t v).t ee))⟩) d3;exact ⟨_,(ref06_P_is.ok k) eo d.pass0 d0⟩) (fun _ _ _ h=>h.2) j ?_
    intro a w d c;refine R q 1 c j fun a c=>?_;rcases Bo b7 with ay | ay
    · replace f:=ct ay f;have c:=c.tr (t:=30) j ay;refine R q 8 c j fun a c=>E (T ?_);cases f;exact ⟨m,rf,c.kp j,d⟩
    replace f:=cf ay f;have c:=c.tr (t:=30) j ay;refine R q 1 c j fun a c=>?_;obtain ⟨b8,ep,f⟩:=bd f
    refine Cl (S:=fun _ L' u=>L'=[]∧u = .bool b8) cl_65 d c j j (by obtain ⟨cv,ef,d,d4⟩:=(d.front 1).giveB;have d1:Pt cv (p_ af) 105 Tref06_P.d (some (Tref06_P.mk ad.T g.2.2.2.2.2.2.2.2.2.2.1 g.2.2.2.2.2.2.2.2.2.2.2.1 g.2.2.2.2.2.2.2.2.2.2.2.2.1 g.2.2.2.2.2.2.2.2.2.2.2.2.2)):=Pm (Tref06_P.inv.2 ⟨ae,ag,j,(s.m (((z.t ab).t v).t ef))⟩) d4;exact ⟨_,(ref06_P_is.ok k) ep d.pass0 d1⟩) (fun _ _ _ h=>h.2) j ?_
    intro a w d c;refine R q 2 c j fun a c=>?_;rcases Bo b8 with az | az
    · replace f:=ct az f;have c:=c.tr (t:=34) j az;refine R q 4 c j fun a c=>E (T ?_);cases f;exact ⟨m,rf,c.kp j,d⟩
    replace f:=cf az f;have c:=c.tr (t:=34) j az;refine R q 1 c j fun a c=>?_;obtain ⟨ev,eq,f⟩:=bd f
    refine Cl (S:=fun _ L' u=>L'=[]∧u = .bool ev) cl_65 d c j j (by obtain ⟨cw,eg,d,d5⟩:=(d.front 1).giveB;have d2:Pt cw (p_ af) 105 Tref06_P.d (some (Tref06_P.mk ad.T g.2.2.2.2.2.2.2.2.2.2.1 g.2.2.2.2.2.2.2.2.2.2.2.1 g.2.2.2.2.2.2.2.2.2.2.2.2.1 g.2.2.2.2.2.2.2.2.2.2.2.2.2)):=Pm (Tref06_P.inv.2 ⟨ae,ag,j,(s.m (((z.t ab).t v).t eg))⟩) d5;exact ⟨_,(ref06_P_is.ok k) eq d.pass0 d2⟩) (fun _ _ _ h=>h.2) j ?_
    intro a w d c;refine R q 2 c j fun a c=>E (T ?_);cases f;exact ⟨m,rf,c.kp j,d⟩
  rintro a w ⟨a9,l,c,d⟩;have f:=d8;refine T (Cc (b:=b4) c j (fun bp=>?_) (fun bp=>?_));rotate_left
  · replace f:=cf bp f;refine Ex (Xe (Xe (Xh (T ?_))));cases f;obtain rfl:=Wb ac
    exact ⟨_,a9,ah,ao,ai,ap,aj,aq,ak,ar,al,au,am,av,an,aw,j,(v.t l),c.kp j,d,(bv.m l),(bw.m l),(bx.m l),(bz.m l),(b0.m l),(b1.m l),(b2.m l)⟩
  replace f:=ct bp f;refine K (T (O (S (G (R q 1 c j fun a c=>E (T (S (S (G (R q 1 c j fun a c=>?_))))))))));have d:=d.pick [1,0,2] (by decide) j
  obtain ⟨es,ej,f⟩:=bd f;refine M 1 cl_61 d c j j (fun n=>(ref06_P_take.ok k) ej n (s.m (((z.t ab).t v).t l))) j ?_;rintro a w _ co _ ⟨rfl,rfl⟩ o d c
  refine E (T ?_);obtain ⟨bi,f,d9⟩:=bd f
  refine X c d (fun e L a' w'=>∃ bl,co.le bl∧Env a' 61 (sl e [0,2,3] [(4,i_ bi.1)])∧Inv bj a8 a7 bl [.blk af [.slice ae ad.T.length ag,i_ bi.2.1,i_ g.2.2.2.2.2.2.2.2.2.2.2.1,i_ bi.2.2.1,i_ bi.2.2.2] 105,nt L 1,nt L 2] w') ?_ ?_
  · refine Cc (b:=es.1) c j (fun bo=>?_) (fun bo=>?_)
    · replace f:=ct bo f;refine S (G (R q 1 c j fun a c=>E (T (S (G (R q 1 c j fun a c=>?_))))));obtain ⟨et,el,f⟩:=bd f
      refine M 1 cl_61 d c j j (fun n=>(ref06_P_take.ok k) el n (s.m ((((z.t ab).t v).t l).t o))) j ?_;rintro a w _ bt _ ⟨rfl,rfl⟩ b3 d c
      refine E (T (Cc (b:=et.1) c j (fun bm=>?_) (fun bm=>?_)));rotate_left
      · replace f:=cf bm f;refine K (T ?_);cases f;exact ⟨bt,b3,c.kp j,d⟩
      replace f:=ct bm f;refine G (R q 1 c j fun a c=>E (T ?_));cases f;exact ⟨bt,b3,c.kp j,d⟩
    replace f:=cf bo f;refine S (G (R q 1 c j fun a c=>?_));obtain ⟨eu,em,f⟩:=bd f
    refine M 1 cl_61 d c j j (fun n=>(ref06_P_take.ok k) em n (s.m ((((z.t ab).t v).t l).t o))) j ?_;rintro a w _ cr _ ⟨rfl,rfl⟩ br d c
    refine E (T (Cc (b:=eu.1) c j (fun bn=>?_) (fun bn=>?_)))
    · replace f:=ct bn f;refine G (R q 1 c j fun a c=>E (T ?_));cases f;exact ⟨cr,br,c.kp j,d⟩
    replace f:=cf bn f;refine G (R q 1 c j fun a c=>?_);obtain ⟨e3,en,f⟩:=bd f
    refine M 1 cl_64 d c j j (fun n=>(ref06_P_must.ok k) en n (s.m (((((z.t ab).t v).t l).t o).t br))) j ?_;rintro a w _ cs _ ⟨rfl,rfl⟩ ed d c
    refine E (T ?_);cases f;exact ⟨cs,(br.t ed),c.kp j,d⟩
  rintro a w ⟨bl,y,c,d⟩;have f:=d9
  refine T (Mx [1] [4,6] (.step 0 0 (.step 1 1 (.step 2 0 (.step 3 2 (.step 4 3 (.step 5 0 (.step 6 3 .nil))))))) mixed (by kernel_rfl) d (by decide) j fun w d hS=>H q 1 c j fun a c=>Dd hS c j j (Rw fun _=>(B q 0 j j j j)) j fun a c=>H q 1 c j fun a c=>Df j ?_)
  obtain ⟨b6,ek,f⟩:=bd f;refine M 1 cl_97 d c j j (fun n=>hs_ref06_P_part ek n (s.m (((((z.t ab).t v).t l).t o).t y))) j ?_
  rintro a w _ cp _ ⟨ez,rfl,rfl,ea⟩ aa d c;obtain ⟨ch,c5,ci,c6,cj,c7,ck,c8,cl,c9,cm,da,cn,db,rfl,ds,dt,du,dv,dw,dx,dy⟩:=TQuery.inv.1 ea
  refine De (d.sw [1] (by decide) j aa) fun hS=>Dl j (Bs ai_73 d c j j j j j fun a w cx c d=>?_)
  have eb:RL cp 10 ([(TQuery.mk g.1 g.2.1 g.2.2.1 g.2.2.2.1 g.2.2.2.2.1 g.2.2.2.2.2.1 g.2.2.2.2.2.2.1 g.2.2.2.2.2.2.2.1 g.2.2.2.2.2.2.2.2.1 g.2.2.2.2.2.2.2.2.2.1),b6.1].map TQuery.d) _:=(Rc ((TQuery.inv (x:=(TQuery.mk g.1 g.2.1 g.2.2.1 g.2.2.2.1 g.2.2.2.2.1 g.2.2.2.2.2.1 g.2.2.2.2.2.2.1 g.2.2.2.2.2.2.2.1 g.2.2.2.2.2.2.2.2.1 g.2.2.2.2.2.2.2.2.2.1))).2 ⟨ah,ao,ai,ap,aj,aq,ak,ar,al,au,am,av,an,aw,j,(bv.m (((l.t o).t y).t aa)),(bw.m (((l.t o).t y).t aa)),(bx.m (((l.t o).t y).t aa)),(bz.m (((l.t o).t y).t aa)),(b0.m (((l.t o).t y).t aa)),(b1.m (((l.t o).t y).t aa)),(b2.m (((l.t o).t y).t aa))⟩) j (Rc (TQuery.inv.2 ⟨ch,c5,ci,c6,cj,c7,ck,c8,cl,c9,cm,da,cn,db,j,ds,dt,du,dv,dw,dx,dy⟩) j Rn))
  refine Dn (Dr c j j (Bd q j z_127 j j) j fun a c=>Dl j (W q 2 d c j j j j j j j j j j fun a w c d=>Dn (Dz (xB (T ?_)))))
  obtain ⟨cq,ec,d,dz⟩:=(d.front 0).giveR (xs:=([(TQuery.mk g.1 g.2.1 g.2.2.1 g.2.2.2.1 g.2.2.2.2.1 g.2.2.2.2.2.1 g.2.2.2.2.2.2.1 g.2.2.2.2.2.2.2.1 g.2.2.2.2.2.2.2.2.1 g.2.2.2.2.2.2.2.2.2.1),b6.1]).map TQuery.d) (by simp) eb
  cases f
  exact ⟨bs,Nat.lt_succ_self _,_,cq,none,0,none,0,none,0,none,0,none,0,none,0,(p_ cx),2,ac,(((((v.t l).t o).t y).t aa).t ec),c.kp j,(d.pick [1,0,2] (by decide) j),(Sn _ _ _ _ (Nat.zero_le _)),(Sn _ _ _ _ (Nat.zero_le _)),(Sn _ _ _ _ (Nat.zero_le _)),(Sn _ _ _ _ (Nat.zero_le _)),(Sn _ _ _ _ (Nat.zero_le _)),(Sn _ _ _ _ (Nat.zero_le _)),dz⟩

theorem ref06_P_prod.F_ok (k:Nat) (s_ref06_P_Expr:Tref06_P→Option (TExpr × Tref06_P)) (s_ref06_P_and:Tref06_P→Option (TExpr × Tref06_P)) (s_ref06_P_not:Tref06_P→Option (TExpr × Tref06_P)) (s_ref06_P_cmp:Tref06_P→Option (TExpr × Tref06_P)) (s_ref06_P_sum:Tref06_P→Option (TExpr × Tref06_P)) (s_ref06_P_Query:Tref06_P→Option (TQuery × Tref06_P)) (s_ref06_P_prod:Tref06_P→Option (TExpr × Tref06_P)) (s_ref06_P_part:Tref06_P→Option (TQuery × Tref06_P)) (s_ref06_P_unary:Tref06_P→Option (TExpr × Tref06_P)) (s_ref06_P_src:Tref06_P→Option (TFrom × Tref06_P)) (s_ref06_P_exprs:Tref06_P→Option ((List TExpr) × Tref06_P)) (s_ref06_P_prim:Tref06_P→Option (TExpr × Tref06_P)) (s_ref06_P_one:Tref06_P→Option (TFrom × Tref06_P)) (hs_ref06_P_Expr:ref06_P_Expr.C s_ref06_P_Expr) (hs_ref06_P_and:ref06_P_and.C s_ref06_P_and) (hs_ref06_P_not:ref06_P_not.C s_ref06_P_not) (hs_ref06_P_cmp:ref06_P_cmp.C s_ref06_P_cmp) (hs_ref06_P_sum:ref06_P_sum.C s_ref06_P_sum) (hs_ref06_P_Query:ref06_P_Query.C s_ref06_P_Query) (hs_ref06_P_prod:ref06_P_prod.C s_ref06_P_prod) (hs_ref06_P_part:ref06_P_part.C s_ref06_P_part) (hs_ref06_P_unary:ref06_P_unary.C s_ref06_P_unary) (hs_ref06_P_src:ref06_P_src.C s_ref06_P_src) (hs_ref06_P_exprs:ref06_P_exprs.C s_ref06_P_exprs) (hs_ref06_P_prim:ref06_P_prim.C s_ref06_P_prim) (hs_ref06_P_one:ref06_P_one.C s_ref06_P_one):ref06_P_prod.C (ref06_P_prod.F k s_ref06_P_Expr s_ref06_P_and s_ref06_P_not s_ref06_P_cmp s_ref06_P_sum s_ref06_P_Query s_ref06_P_prod s_ref06_P_part s_ref06_P_unary s_ref06_P_src s_ref06_P_exprs s_ref06_P_prim s_ref06_P_one):=by
  intro al r f ay ao an ap am ar d ac
  unfold ref06_P_prod.F at f
  refine Ci 21 Tryz.func96 j j j fun a c=>?_
  refine S (G (A d c j z_75 j j fun a w b6 c d=>E (T (S (G (R q 1 c j fun a c=>?_))))));have d:=d.pick [1,0] (by decide) j;obtain ⟨cc,bv,f⟩:=bd f
  refine M 1 cl_98 d c j j (fun i=>hs_ref06_P_unary bv i ac) j ?_;rintro a w _ a5 _ ⟨b7,rfl,rfl,bq⟩ ai d c;obtain ⟨az,a8,a0,a9,rfl,bf,bg⟩:=TExpr.inv.1 bq
  refine A d c j z_75 j j fun a w aq c d=>W q 0 d c j j j j j j j j j j fun a w c d=>E (T (S (G (R q 1 c j fun a c=>Bs ai_22 d c j j j j j fun a w b4 c d=>?_))))
  have br:RL a5 1 ([(⟨#[42]⟩:ByteArray),(⟨#[47]⟩:ByteArray),(⟨#[37]⟩:ByteArray)].map D.str) _:=(Rc (rep_str.2 j) j (Rc (rep_str.2 j) j (Rc (rep_str.2 j) j Rn)))
  obtain ⟨b1,u,d,bj⟩:=(d.front 0).giveR (xs:=([(⟨#[42]⟩:ByteArray),(⟨#[47]⟩:ByteArray),(⟨#[37]⟩:ByteArray)]).map D.str) (by simp) br;have d:=d.pick [1,0,2] (by decide) j
  obtain ⟨cd,bw,f⟩:=bd f;refine M 1 cl_94 d c j j (fun i=>(ref06_P_oneOf.ok k) bw i (ac.m (ai.t u)) bj) j ?_;rintro a w _ ag _ ⟨rfl,rfl⟩ ae d c
  refine R q 1 c j fun a c=>E (T (S ?_));obtain ⟨ax,l,bp⟩:=bd f
  refine X c d (fun e L a' w'=>∃ h p y aa z ab,ax = .go h∧ag.le p∧Env a' 21 (sl e [2,3] [])∧Inv ay ao an p [.blk ap [.slice am al.T.length ar,i_ h.2.1,i_ h.2.2.1,i_ h.2.2.2.1,i_ h.2.2.2.2.1] 105,.blk aq [i_ h.2.2.2.2.2.1,i_ h.2.2.2.2.2.2.1,.string h.2.2.2.2.2.2.2.1,.string h.2.2.2.2.2.2.2.2.1,.slice y h.2.2.2.2.2.2.2.2.2.1.length aa,.slice z h.2.2.2.2.2.2.2.2.2.2.length ab] 75,nt L 2] w'∧Sl p y aa 6 (h.2.2.2.2.2.2.2.2.2.1.map TExpr.d)∧Sl p z ab 10 (h.2.2.2.2.2.2.2.2.2.2.map TQuery.d)) ?_ ?_
  rotate_left
  · rintro a w ⟨h,p,y,aa,z,ab,rfl,ca,c,d,bh,bi⟩;have f:=Lg bp
    refine T (S (G (L d c j (B q 1 j j j j) j fun a c=>W q 2 d c j j j j j j j j j j fun a w c d=>E (T (V ?_)))));cases f
    refine U q c d (.cell 2 j j j j .nil) j ⟨_,_,_,j,(d.pick [0] (by decide) j),_,j,j,((TExpr.inv (x:=(TExpr.mk h.2.2.2.2.2.1 h.2.2.2.2.2.2.1 h.2.2.2.2.2.2.2.1 h.2.2.2.2.2.2.2.2.1 h.2.2.2.2.2.2.2.2.2.1 h.2.2.2.2.2.2.2.2.2.2))).2 ⟨y,aa,z,ab,j,bh,bi⟩)⟩
  
  refine O (Q c d (fun e L n' a' w'=>∃ g m n s o t,whileL (ref06_P_prod.b0 k s_ref06_P_Expr s_ref06_P_and s_ref06_P_not s_ref06_P_cmp s_ref06_P_sum s_ref06_P_Query s_ref06_P_prod s_ref06_P_part s_ref06_P_unary s_ref06_P_src s_ref06_P_exprs s_ref06_P_prim s_ref06_P_one al) n' g=some ax∧ag.le m∧Env a' 21 (sl e [0,2,3] [(4,.string g.1)])∧Inv ay ao an m [.blk ap [.slice am al.T.length ar,i_ g.2.1,i_ g.2.2.1,i_ g.2.2.2.1,i_ g.2.2.2.2.1] 105,.blk aq [i_ g.2.2.2.2.2.1,i_ g.2.2.2.2.2.2.1,.string g.2.2.2.2.2.2.2.1,.string g.2.2.2.2.2.2.2.2.1,.slice n g.2.2.2.2.2.2.2.2.2.1.length s,.slice o g.2.2.2.2.2.2.2.2.2.2.length t] 75,nt L 2] w'∧Sl m n s 6 (g.2.2.2.2.2.2.2.2.2.1.map TExpr.d)∧Sl m o t 10 (g.2.2.2.2.2.2.2.2.2.2.map TQuery.d)) _ ⟨_,ag,az,a8,a0,a9,l,rf,c.kp j,d,(bf.m (u.t ae)),(bg.m (u.t ae))⟩ ?_)
  rintro ak a w ⟨g,m,n,s,o,t,l,ad,c,d,au,av⟩;rcases ak with _ | ak
  · cases l
  obtain ⟨cb,f,l⟩:=Wh l;unfold ref06_P_prod.b0 at f
  refine S (S (G (R q 2 c j fun a c=>E (T (Cc (b:=!decide (g.1=(⟨#[]⟩:ByteArray))) c j (fun ah=>?_) (fun ah=>?_))))));rotate_left
  · replace f:=cf ah f;refine Ex (Xe (Xe (Xh (T ?_))));cases f;obtain rfl:=Wb l;exact ⟨_,m,n,s,o,t,j,ad,c.kp j,d,au,av⟩
  replace f:=ct ah f
  refine K (T (O (S (Mx [1] [4,5] (.step 0 0 (.step 1 1 (.step 2 0 (.step 3 2 (.step 4 3 (.step 5 3 .nil)))))) mixed (by kernel_rfl) d (by decide) j fun w d hS=>H q 1 c j fun a c=>Dd hS c j j (Rw fun _=>(B q 0 j j j j)) j fun a c=>H q 1 c j fun a c=>Df j ?_))))
  obtain ⟨ce,bx,f⟩:=bd f;refine M 1 cl_98 d c j j (fun i=>hs_ref06_P_unary bx i (ac.m (((ai.t u).t ae).t ad))) j ?_
  rintro a w _ b2 _ ⟨b8,rfl,rfl,bs⟩ v d c;obtain ⟨a1,ba,a2,bb,rfl,bk,bl⟩:=TExpr.inv.1 bs;refine De (d.sw [1] (by decide) j v) fun hS=>Dl j ?_
  obtain ⟨cg,bz,f⟩:=bd f
  refine J cl_90 d c j j ((ref06_bin.ok k) bz d.pass0 ((TExpr.inv (x:=(TExpr.mk g.2.2.2.2.2.1 g.2.2.2.2.2.2.1 g.2.2.2.2.2.2.2.1 g.2.2.2.2.2.2.2.2.1 g.2.2.2.2.2.2.2.2.2.1 g.2.2.2.2.2.2.2.2.2.2))).2 ⟨n,s,o,t,j,(au.m v),(av.m v)⟩) (TExpr.inv.2 ⟨a1,ba,a2,bb,j,bk,bl⟩)) j ?_
  rintro a w _ a6 _ ⟨rfl,b9,rfl,bt⟩ aw d c;obtain ⟨a3,bc,a4,be,rfl,bm,bn⟩:=TExpr.inv.1 bt
  refine Dn (Dl j (W q 1 d c j j j j j j j j j j fun a w c d=>Dn (Dz (T (G (R q 1 c j fun a c=>Bs ai_22 d c j j j j j fun a w b5 c d=>?_))))))
  have bu:RL a6 1 ([(⟨#[42]⟩:ByteArray),(⟨#[47]⟩:ByteArray),(⟨#[37]⟩:ByteArray)].map D.str) _:=(Rc (rep_str.2 j) j (Rc (rep_str.2 j) j (Rc (rep_str.2 j) j Rn)))
  obtain ⟨b3,af,d,bo⟩:=(d.front 0).giveR (xs:=([(⟨#[42]⟩:ByteArray),(⟨#[47]⟩:ByteArray),(⟨#[37]⟩:ByteArray)]).map D.str) (by simp) bu;obtain ⟨ch,b0,f⟩:=bd f
  refine M 1 cl_94 d c j j (fun i=>(ref06_P_oneOf.ok k) b0 i (ac.m ((((((ai.t u).t ae).t ad).t v).t aw).t af)) bo) j ?_
  rintro a w _ a7 _ ⟨rfl,rfl⟩ aj d c;refine R q 1 c j fun a c=>E (xB (T ?_));cases f
  exact ⟨ak,Nat.lt_succ_self _,_,a7,a3,bc,a4,be,l,((((ad.t v).t aw).t af).t aj),c.kp j,d,(bm.m (af.t aj)),(bn.m (af.t aj))⟩
end Go.Proofs.YtliaopbgkcdibaaGreat
