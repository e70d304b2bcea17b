/- The contracts: what the machine does at a call is what the plain function says. Written by mk.py. -/
import Derived.Test.YtliaopbgkcdibaaGreatCgP7
import Derived.Test.YtliaopbgkcdibaaGreatCgP8
set_option linter.unusedVariables false
set_option linter.unusedSimpArgs false
set_option maxRecDepth 100000
namespace Go.Proofs.YtliaopbgkcdibaaGreat
open Go.RowKit
theorem ref06_P_exprs.F_ok (k:Nat) (s_ref06_P_Expr:Tref06_P→Option (TExpr × Tref06_P)) (s_ref06_P_and:Tref06_P→Option (TExpr × Tref06_P)) (s_ref06_P_not:Tref06_P→Option (TExpr × Tref06_P)) (s_ref06_P_cmp:Tref06_P→Option (TExpr × Tref06_P)) (s_ref06_P_sum:Tref06_P→Option (TExpr × Tref06_P)) (s_ref06_P_Query:Tref06_P→Option (TQuery × Tref06_P)) (s_ref06_P_prod:Tref06_P→Option (TExpr × Tref06_P)) (s_ref06_P_part:Tref06_P→Option (TQuery × Tref06_P)) (s_ref06_P_unary:Tref06_P→Option (TExpr × Tref06_P)) (s_ref06_P_src:Tref06_P→Option (TFrom × Tref06_P)) (s_ref06_P_exprs:Tref06_P→Option ((List TExpr) × Tref06_P)) (s_ref06_P_prim:Tref06_P→Option (TExpr × Tref06_P)) (s_ref06_P_one:Tref06_P→Option (TFrom × Tref06_P)) (hs_ref06_P_Expr:ref06_P_Expr.C s_ref06_P_Expr) (hs_ref06_P_and:ref06_P_and.C s_ref06_P_and) (hs_ref06_P_not:ref06_P_not.C s_ref06_P_not) (hs_ref06_P_cmp:ref06_P_cmp.C s_ref06_P_cmp) (hs_ref06_P_sum:ref06_P_sum.C s_ref06_P_sum) (hs_ref06_P_Query:ref06_P_Query.C s_ref06_P_Query) (hs_ref06_P_prod:ref06_P_prod.C s_ref06_P_prod) (hs_ref06_P_part:ref06_P_part.C s_ref06_P_part) (hs_ref06_P_unary:ref06_P_unary.C s_ref06_P_unary) (hs_ref06_P_src:ref06_P_src.C s_ref06_P_src) (hs_ref06_P_exprs:ref06_P_exprs.C s_ref06_P_exprs) (hs_ref06_P_prim:ref06_P_prim.C s_ref06_P_prim) (hs_ref06_P_one:ref06_P_one.C s_ref06_P_one):ref06_P_exprs.C (ref06_P_exprs.F k s_ref06_P_Expr s_ref06_P_and s_ref06_P_not s_ref06_P_cmp s_ref06_P_sum s_ref06_P_Query s_ref06_P_prod s_ref06_P_part s_ref06_P_unary s_ref06_P_src s_ref06_P_exprs s_ref06_P_prim s_ref06_P_one):=by
  intro ah r g a3 ao an aq am ax d ae
  unfold ref06_P_exprs.F at g
  refine Ci 15 Tryz.func100 j j j fun a c=>?_
  refine S (G (R q 1 c j fun a c=>E (T (S (G (R q 1 c j fun a c=>?_))))));obtain ⟨n,bl,g⟩:=bd g
  refine M 1 cl_81 d c j j (fun p=>hs_ref06_P_Expr bl p ae) j ?_;rintro a w _ z _ ⟨bs,rfl,rfl,bi⟩ a0 d c;obtain ⟨ai,ar,aj,aw,rfl,a9,bc⟩:=TExpr.inv.1 bi
  refine Bs ai_49 d c j j j j j fun a w a6 c d=>?_;have bj:RL z 6 ([n.1].map TExpr.d) _:=(Rc (TExpr.inv.2 ⟨ai,ar,aj,aw,j,a9,bc⟩) j Rn)
  refine R q 1 c j fun a c=>E (T (S ?_));obtain ⟨a2,m,be⟩:=bd g
  refine X c d (fun e L a' w'=>∃ i y u ab ad,a2 = .go i∧z.le y∧Env a' 15 [(3,.slice u i.1.length ab)]∧Inv a3 ao an y [.row (.slice u i.1.length ab) 75 6 i.1.length ad,.blk aq [.slice am ah.T.length ax,i_ i.2.1,i_ i.2.2.1,i_ i.2.2.2.1,i_ i.2.2.2.2] 105] w'∧RL y 6 (i.1.map TExpr.d) ad) ?_ ?_
  rotate_left
  · rintro a w ⟨i,y,u,ab,ad,rfl,bt,c,d,bf⟩;have g:=Lg be;refine T (S (G (R q 2 c j fun a c=>E (T ?_))))
    obtain ⟨bp,bu,d,a8⟩:=(d.front 0).giveR (xs:=i.1.map TExpr.d) (by simp) bf;refine V ?_;cases g;refine N (v:=_) c j ⟨_,_,_,j,d,u,ab,j,j,a8⟩
  
  refine O (Q c d (fun e L n' a' w'=>∃ h x t aa o,whileL (ref06_P_exprs.b0 k s_ref06_P_Expr s_ref06_P_and s_ref06_P_not s_ref06_P_cmp s_ref06_P_sum s_ref06_P_Query s_ref06_P_prod s_ref06_P_part s_ref06_P_unary s_ref06_P_src s_ref06_P_exprs s_ref06_P_prim s_ref06_P_one ah) n' h=some a2∧z.le x∧Env a' 15 (sl e [0] [(3,.slice t h.1.length aa)])∧Inv a3 ao an x [.row (.slice t h.1.length aa) 75 6 h.1.length o,.blk aq [.slice am ah.T.length ax,i_ h.2.1,i_ h.2.2.1,i_ h.2.2.2.1,i_ h.2.2.2.2] 105] w'∧RL x 6 (h.1.map TExpr.d) o) _ ⟨_,z,(p_ a6),1,[i_ n.1.Kind,i_ n.1.N,.string n.1.S,.string n.1.T,.slice ai n.1.Kids.length ar,.slice aj n.1.Q.length aw],m,rf,c.kp j,d,bj⟩ ?_)
  rintro ag a w ⟨h,x,t,aa,o,m,ac,c,d,ay⟩;rcases ag with _ | ag
  · cases m
  obtain ⟨bv,g,m⟩:=Wh m;unfold ref06_P_exprs.b0 at g;refine S (S (G (R q 1 c j fun a c=>?_)));have d:=d.pick [1,0] (by decide) j;obtain ⟨bo,bm,g⟩:=bd g
  refine M 1 cl_61 d c j j (fun p=>(ref06_P_take.ok k) bm p (ae.m (a0.t ac))) j ?_;rintro a w _ a5 _ ⟨rfl,rfl⟩ s d c
  refine E (T (Cc (b:=bo.1) c j (fun af=>?_) (fun af=>?_)));rotate_left
  · replace g:=cf af g;refine Ex (Xe (Xe (Xh (T ?_))));cases g;obtain rfl:=Wb m
    exact ⟨_,a5,t,aa,o,j,(ac.t s),c.kp j,(d.pick [1,0] (by decide) j),(ay.m s)⟩
  replace g:=ct af g;refine K (T (O (G (R q 2 c j fun a c=>?_))));obtain ⟨l,bn,g⟩:=bd g
  refine M 1 cl_81 d c j j (fun p=>hs_ref06_P_Expr bn p (ae.m ((a0.t ac).t s))) j ?_;rintro a w _ ap _ ⟨br,rfl,rfl,bg⟩ a1 d c
  obtain ⟨ak,au,al,av,rfl,ba,bb⟩:=TExpr.inv.1 bg;refine Bs ai_49 d c j j j j j fun a w bq c d=>?_
  have az:RL ap 6 ([l.1].map TExpr.d) _:=(Rc (TExpr.inv.2 ⟨ak,au,al,av,j,ba,bb⟩) j Rn);obtain ⟨_,bk,g⟩:=bd g
  refine Ao (f:=TExpr.d) (xs:=h.1) (ys:=[l.1]) ai_49 2 0 d c j j j az j j (Ll bk) j fun a w a4 a7 c d=>?_;have bh:=Ra (ay.m (s.t a1)) az
  refine R q 1 c j fun a c=>E (xB (T ?_));cases g
  exact ⟨ag,Nat.lt_succ_self _,_,ap,a4,a7,(o ++ [i_ l.1.Kind,i_ l.1.N,.string l.1.S,.string l.1.T,.slice ak l.1.Kids.length au,.slice al l.1.Q.length av]),m,((ac.t s).t a1),c.kp j,(d.pick [2,1] (by decide) j),bh⟩

theorem ref06_P_prim.F_ok (k:Nat) (s_ref06_P_Expr:Tref06_P→Option (TExpr × Tref06_P)) (s_ref06_P_and:Tref06_P→Option (TExpr × Tref06_P)) (s_ref06_P_not:Tref06_P→Option (TExpr × Tref06_P)) (s_ref06_P_cmp:Tref06_P→Option (TExpr × Tref06_P)) (s_ref06_P_sum:Tref06_P→Option (TExpr × Tref06_P)) (s_ref06_P_Query:Tref06_P→Option (TQuery × Tref06_P)) (s_ref06_P_prod:Tref06_P→Option (TExpr × Tref06_P)) (s_ref06_P_part:Tref06_P→Option (TQuery × Tref06_P)) (s_ref06_P_unary:Tref06_P→Option (TExpr × Tref06_P)) (s_ref06_P_src:Tref06_P→Option (TFrom × Tref06_P)) (s_ref06_P_exprs:Tref06_P→Option ((List TExpr) × Tref06_P)) (s_ref06_P_prim:Tref06_P→Option (TExpr × Tref06_P)) (s_ref06_P_one:Tref06_P→Option (TFrom × Tref06_P)) (hs_ref06_P_Expr:ref06_P_Expr.C s_ref06_P_Expr) (hs_ref06_P_and:ref06_P_and.C s_ref06_P_and) (hs_ref06_P_not:ref06_P_not.C s_ref06_P_not) (hs_ref06_P_cmp:ref06_P_cmp.C s_ref06_P_cmp) (hs_ref06_P_sum:ref06_P_sum.C s_ref06_P_sum) (hs_ref06_P_Query:ref06_P_Query.C s_ref06_P_Query) (hs_ref06_P_prod:ref06_P_prod.C s_ref06_P_prod) (hs_ref06_P_part:ref06_P_part.C s_ref06_P_part) (hs_ref06_P_unary:ref06_P_unary.C s_ref06_P_unary) (hs_ref06_P_src:ref06_P_src.C s_ref06_P_src) (hs_ref06_P_exprs:ref06_P_exprs.C s_ref06_P_exprs) (hs_ref06_P_prim:ref06_P_prim.C s_ref06_P_prim) (hs_ref06_P_one:ref06_P_one.C s_ref06_P_one):ref06_P_prim.C (ref06_P_prim.F k s_ref06_P_Expr s_ref06_P_and s_ref06_P_not s_ref06_P_cmp s_ref06_P_sum s_ref06_P_Query s_ref06_P_prod s_ref06_P_part s_ref06_P_unary s_ref06_P_src s_ref06_P_exprs s_ref06_P_prim s_ref06_P_one):=by
  intro ab r f bn a3 a2 ax au ay d i
  unfold ref06_P_prim.F at f
  refine Ci 159 Tryz.func101 j j j fun a c=>?_
  
  refine S (G (A d c j z_75 j j fun a w hp c d=>E (T (S (S (G (R q 3 c j fun a c=>L d c j (B q 1 j j j j) j fun a c=>R q 1 c j fun a c=>E (T (Cc (b:=!decide (ab.E=(0:Int))) c j (fun bj=>?_) (fun bj=>?_))))))))))
  · replace f:=ct bj f;refine S (G (L d c j (Bd q j z_75 j j) j fun a c=>W q 0 d c j j j j j j j j j j fun a w c d=>E (T (V (Xr ?_)))))
    cases f
    refine U q c d (.cell 0 j j j j .nil) j ⟨_,_,_,j,(d.pick [1] (by decide) j),_,j,j,((TExpr.inv (x:=(TExpr.mk (0:Int) (0:Int) (⟨#[]⟩:ByteArray) (⟨#[]⟩:ByteArray) [] []))).2 ⟨none,0,none,0,j,(Sn _ _ _ _ (Nat.zero_le _)),(Sn _ _ _ _ (Nat.zero_le _))⟩)⟩
  replace f:=cf bj f
  refine K (T (S (Mx [1] [11] (.step 0 0 (.step 1 0 (.step 2 0 (.step 3 1 (.step 4 0 (.step 5 0 (.step 6 0 (.step 7 1 (.step 8 0 (.step 9 1 (.step 10 2 (.step 11 3 .nil)))))))))))) mixed (by kernel_rfl) d (by decide) j fun w d hS=>H q 3 c j fun a c=>Dd hS c j j (Rw fun _=>(B q 0 j j j j)) j fun a c=>H q 3 c j fun a c=>Dd hS c j j (Rw fun _=>(B q 0 j j j j)) j fun a c=>?_)))
  obtain ⟨a1,bw,f⟩:=bd f;obtain ⟨hm,h5,cs,fc,e1,ev⟩:=Sa i (Go bw).1 (Go bw).2;obtain rfl:=TToken.inv.1 e1
  refine Dr c j j (I q fc j j j) j fun a c=>Dd hS c j j (Rw fun _=>(Fg q ev 0 j j j j)) j fun a c=>Df j (A d c j z_131 j j fun a w ho c d=>De (d.sw [2] (by decide) j rf) fun hS=>Dl j (W q 0 d c j j j j j j j j j j fun a w c d=>Dn (Dz (T (S (S (G (R q 1 c j fun a c=>L d c j (B q 0 j j j j) j fun a c=>R q 1 c j fun a c=>E (T (Cc (b:=decide (a1.Kind=(2:Int))) c j (fun bi=>?_) (fun bi=>?_)))))))))))
  · replace f:=ct bi f
    refine S (G (R q 3 c j fun a c=>L d c j (B q 2 j j j j) j fun a c=>R q 3 c j fun a c=>W q 2 d c j j j j j j j j j j fun a w c d=>E (T (S (G (R q 1 c j fun a c=>L d c j (B q 0 j j j j) j fun a c=>L d c j (Bd q j z_75 j j) j fun a c=>W q 1 d c j j j j j j j j j j fun a w c d=>E (T (V (Xr ?_)))))))))
    cases f
    refine U q c d (.cell 1 j j j j .nil) j ⟨_,_,_,j,(d.pick [2] (by decide) j),_,j,j,((TExpr.inv (x:=(TExpr.mk (3:Int) a1.N (⟨#[]⟩:ByteArray) (⟨#[]⟩:ByteArray) [] []))).2 ⟨none,0,none,0,j,(Sn _ _ _ _ (Nat.zero_le _)),(Sn _ _ _ _ (Nat.zero_le _))⟩)⟩
  replace f:=cf bi f
  refine K (T (S (S (G (R q 1 c j fun a c=>L d c j (B q 0 j j j j) j fun a c=>R q 1 c j fun a c=>E (T (Cc (b:=decide (a1.Kind=(3:Int))) c j (fun bh=>?_) (fun bh=>?_))))))))
  · replace f:=ct bh f
    refine S (G (R q 3 c j fun a c=>L d c j (B q 2 j j j j) j fun a c=>R q 3 c j fun a c=>W q 2 d c j j j j j j j j j j fun a w c d=>E (T (S (G (R q 1 c j fun a c=>L d c j (B q 0 j j j j) j fun a c=>L d c j (Bd q j z_75 j j) j fun a c=>W q 1 d c j j j j j j j j j j fun a w c d=>E (T (V (Xr ?_)))))))))
    cases f
    refine U q c d (.cell 1 j j j j .nil) j ⟨_,_,_,j,(d.pick [2] (by decide) j),_,j,j,((TExpr.inv (x:=(TExpr.mk (4:Int) (0:Int) a1.Text (⟨#[]⟩:ByteArray) [] []))).2 ⟨none,0,none,0,j,(Sn _ _ _ _ (Nat.zero_le _)),(Sn _ _ _ _ (Nat.zero_le _))⟩)⟩
  replace f:=cf bh f;refine K (T (S (S (G (R q 1 c j fun a c=>?_)))));have d:=d.pick [2,0,1] (by decide) j;obtain ⟨gp,f1,f⟩:=bd f
  refine M 1 cl_61 d c j j (fun g=>(ref06_P_take.ok k) f1 g i) j ?_;rintro a w _ g5 _ ⟨rfl,rfl⟩ l d c;refine E (T (Cc (b:=gp.1) c j (fun bg=>?_) (fun bg=>?_)))
  · replace f:=ct bg f;refine S (G (L d c j (Bd q j z_75 j j) j fun a c=>W q 2 d c j j j j j j j j j j fun a w c d=>E (T (V (Xr ?_)))))
    cases f
    refine U q c d (.cell 2 j j j j .nil) j ⟨_,_,_,j,(d.pick [0] (by decide) j),_,j,j,((TExpr.inv (x:=(TExpr.mk (1:Int) (0:Int) (⟨#[]⟩:ByteArray) (⟨#[]⟩:ByteArray) [] []))).2 ⟨none,0,none,0,j,(Sn _ _ _ _ (Nat.zero_le _)),(Sn _ _ _ _ (Nat.zero_le _))⟩)⟩
  replace f:=cf bg f;refine K (T (S (S (G (R q 1 c j fun a c=>?_)))));obtain ⟨gq,f2,f⟩:=bd f
  refine M 1 cl_61 d c j j (fun g=>(ref06_P_take.ok k) f2 g (i.m l)) j ?_;rintro a w _ g6 _ ⟨rfl,rfl⟩ m d c
  refine E (T (Cc (b:=gq.1) c j (fun bf=>?_) (fun bf=>?_)))
  · replace f:=ct bf f;refine S (G (L d c j (Bd q j z_75 j j) j fun a c=>W q 2 d c j j j j j j j j j j fun a w c d=>E (T (V (Xr ?_)))))
    cases f
    refine U q c d (.cell 2 j j j j .nil) j ⟨_,_,_,j,(d.pick [0] (by decide) j),_,j,j,((TExpr.inv (x:=(TExpr.mk (2:Int) (1:Int) (⟨#[]⟩:ByteArray) (⟨#[]⟩:ByteArray) [] []))).2 ⟨none,0,none,0,j,(Sn _ _ _ _ (Nat.zero_le _)),(Sn _ _ _ _ (Nat.zero_le _))⟩)⟩
  replace f:=cf bf f;refine K (T (S (S (G (R q 1 c j fun a c=>?_)))));obtain ⟨gr,f3,f⟩:=bd f
  refine M 1 cl_61 d c j j (fun g=>(ref06_P_take.ok k) f3 g (i.m (l.t m))) j ?_;rintro a w _ g7 _ ⟨rfl,rfl⟩ n d c
  refine E (T (Cc (b:=gr.1) c j (fun be=>?_) (fun be=>?_)))
  · replace f:=ct be f;refine S (G (L d c j (Bd q j z_75 j j) j fun a c=>W q 2 d c j j j j j j j j j j fun a w c d=>E (T (V (Xr ?_)))))
    cases f
    refine U q c d (.cell 2 j j j j .nil) j ⟨_,_,_,j,(d.pick [0] (by decide) j),_,j,j,((TExpr.inv (x:=(TExpr.mk (2:Int) (0:Int) (⟨#[]⟩:ByteArray) (⟨#[]⟩:ByteArray) [] []))).2 ⟨none,0,none,0,j,(Sn _ _ _ _ (Nat.zero_le _)),(Sn _ _ _ _ (Nat.zero_le _))⟩)⟩
  replace f:=cf be f;refine K (T (S (S (G (R q 1 c j fun a c=>?_)))));obtain ⟨gs,f5,f⟩:=bd f
  refine M 1 cl_61 d c j j (fun g=>(ref06_P_take.ok k) f5 g (i.m ((l.t m).t n))) j ?_;rintro a w _ g9 _ ⟨rfl,rfl⟩ o d c
  refine E (T (Cc (b:=gs.1) c j (fun bc=>?_) (fun bc=>?_)))
  · replace f:=ct bc f;refine S (G (R q 1 c j fun a c=>?_));obtain ⟨gt,f7,f⟩:=bd f
    refine M 1 cl_63 d c j j (fun g=>(ref06_P_name.ok k) f7 g (i.m (((l.t m).t n).t o))) j ?_;rintro a w _ ha _ ⟨rfl,rfl⟩ h1 d c
    refine L d c j (Bd q j z_75 j j) j fun a c=>W q 2 d c j j j j j j j j j j fun a w c d=>E (T (V (Xr ?_)));cases f
    refine U q c d (.cell 2 j j j j .nil) j ⟨_,_,_,j,(d.pick [0] (by decide) j),_,j,j,((TExpr.inv (x:=(TExpr.mk (6:Int) (0:Int) gt.1 (⟨#[]⟩:ByteArray) [] []))).2 ⟨none,0,none,0,j,(Sn _ _ _ _ (Nat.zero_le _)),(Sn _ _ _ _ (Nat.zero_le _))⟩)⟩
  replace f:=cf bc f;refine K (T (S (S (G (R q 1 c j fun a c=>?_)))));obtain ⟨gu,ga,f⟩:=bd f
  refine M 1 cl_61 d c j j (fun g=>(ref06_P_take.ok k) ga g (i.m (((l.t m).t n).t o))) j ?_;rintro a w _ hc _ ⟨rfl,rfl⟩ p d c
  refine E (T (Cc (b:=gu.1) c j (fun bb=>?_) (fun bb=>?_)))
  · replace f:=ct bb f;refine S (G (R q 1 c j fun a c=>?_));obtain ⟨id,gd,f⟩:=bd f
    refine M 1 cl_64 d c j j (fun g=>(ref06_P_must.ok k) gd g (i.m ((((l.t m).t n).t o).t p))) j ?_;rintro a w _ hf _ ⟨rfl,rfl⟩ ag d c
    refine E (T (S (G (R q 1 c j fun a c=>?_))));obtain ⟨br,gm,f⟩:=bd f
    refine M 1 cl_81 d c j j (fun g=>hs_ref06_P_Expr gm g (i.m (((((l.t m).t n).t o).t p).t ag))) j ?_;rintro a w _ hi _ ⟨hy,rfl,rfl,fb⟩ ar d c
    obtain ⟨co,dy,cp,dz,rfl,et,eu⟩:=TExpr.inv.1 fb
    refine A d c j z_75 j j fun a w hr c d=>W q 0 d c j j j j j j j j j j fun a w c d=>E (T (S (G (R q 1 c j fun a c=>?_))))
    have d:=d.pick [1,0,2,3] (by decide) j;obtain ⟨il,gn,f⟩:=bd f
    refine M 1 cl_64 d c j j (fun g=>(ref06_P_must.ok k) gn g (i.m ((((((l.t m).t n).t o).t p).t ag).t ar))) j ?_;rintro a w _ hj _ ⟨rfl,rfl⟩ ah d c
    refine E (T (S (G (R q 1 c j fun a c=>?_))));obtain ⟨bs,fr,f⟩:=bd f
    refine M 1 cl_81 d c j j (fun g=>hs_ref06_P_Expr fr g (i.m (((((((l.t m).t n).t o).t p).t ag).t ar).t ah))) j ?_
    rintro a w _ gx _ ⟨hs,rfl,rfl,ex⟩ ap d c;obtain ⟨b1,da,b2,db,rfl,d0,d1⟩:=TExpr.inv.1 ex
    refine A d c j z_75 j j fun a w hk c d=>W q 0 d c j j j j j j j j j j fun a w c d=>E (T (S (G (R q 1 c j fun a c=>?_))))
    have d:=d.pick [1,0,2,3,4] (by decide) j;obtain ⟨h6,fs,f⟩:=bd f
    refine M 1 cl_64 d c j j (fun g=>(ref06_P_must.ok k) fs g (i.m ((((((((l.t m).t n).t o).t p).t ag).t ar).t ah).t ap))) j ?_
    rintro a w _ gy _ ⟨rfl,rfl⟩ ad d c;refine E (T (S (G (R q 1 c j fun a c=>?_))));obtain ⟨bo,ft,f⟩:=bd f
    refine M 1 cl_81 d c j j (fun g=>hs_ref06_P_Expr ft g (i.m (((((((((l.t m).t n).t o).t p).t ag).t ar).t ah).t ap).t ad))) j ?_
    rintro a w _ gz _ ⟨ht,rfl,rfl,ey⟩ aq d c;obtain ⟨b3,dc,b4,dd,rfl,d2,d3⟩:=TExpr.inv.1 ey
    refine A d c j z_75 j j fun a w hl c d=>W q 0 d c j j j j j j j j j j fun a w c d=>E (T (S (G (R q 1 c j fun a c=>?_))))
    have d:=d.pick [1,0,2,3,4,5] (by decide) j;obtain ⟨h7,fu,f⟩:=bd f
    refine M 1 cl_64 d c j j (fun g=>(ref06_P_must.ok k) fu g (i.m ((((((((((l.t m).t n).t o).t p).t ag).t ar).t ah).t ap).t ad).t aq))) j ?_
    rintro a w _ cq _ ⟨rfl,rfl⟩ ae d c
    refine E (T (S (G (L d c j (B q 3 j j j j) j fun a c=>L d c j (B q 2 j j j j) j fun a c=>L d c j (B q 1 j j j j) j fun a c=>Bs ai_49 d c j j j j j fun a w c5 c d=>?_))))
    have ez:RL cq 6 ([br.1,bs.1,bo.1].map TExpr.d) _:=(Rc (TExpr.inv.2 ⟨co,dy,cp,dz,j,(et.m ((((ah.t ap).t ad).t aq).t ae)),(eu.m ((((ah.t ap).t ad).t aq).t ae))⟩) j (Rc (TExpr.inv.2 ⟨b1,da,b2,db,j,(d0.m ((ad.t aq).t ae)),(d1.m ((ad.t aq).t ae))⟩) j (Rc (TExpr.inv.2 ⟨b3,dc,b4,dd,j,(d2.m ae),(d3.m ae)⟩) j Rn)))
    refine L d c j (Bd q j z_75 j j) j fun a c=>W q 6 d c j j j j j j j j j j fun a w c d=>E (T ?_)
    obtain ⟨g0,hz,d,d4⟩:=(d.front 0).giveR (xs:=([br.1,bs.1,bo.1]).map TExpr.d) (by simp) ez;refine V (Xr ?_);cases f
    refine U q c d (.cell 5 j j j j .nil) j ⟨_,_,_,j,(d.pick [0] (by decide) j),_,j,j,((TExpr.inv (x:=(TExpr.mk (11:Int) (0:Int) (⟨#[]⟩:ByteArray) (⟨#[]⟩:ByteArray) ([br.1,bs.1,bo.1]) []))).2 ⟨(p_ c5),3,none,0,j,d4,(Sn _ _ _ _ (Nat.zero_le _))⟩)⟩
  replace f:=cf bb f;refine K (T (S (S (G (R q 1 c j fun a c=>?_)))));obtain ⟨go,fv,f⟩:=bd f
  refine M 1 cl_61 d c j j (fun g=>(ref06_P_take.ok k) fv g (i.m ((((l.t m).t n).t o).t p))) j ?_;rintro a w _ g1 _ ⟨rfl,rfl⟩ s d c
  refine E (T (Cc (b:=go.1) c j (fun ba=>?_) (fun ba=>?_)))
  · replace f:=ct ba f;refine S (G (R q 1 c j fun a c=>?_));obtain ⟨h8,fw,f⟩:=bd f
    refine M 1 cl_64 d c j j (fun g=>(ref06_P_must.ok k) fw g (i.m (((((l.t m).t n).t o).t p).t s))) j ?_;rintro a w _ g2 _ ⟨rfl,rfl⟩ bu d c
    refine E (T (S (G (R q 1 c j fun a c=>?_))));obtain ⟨bp,fx,f⟩:=bd f
    refine M 1 cl_95 d c j j (fun g=>hs_ref06_P_Query fx g (i.m ((((((l.t m).t n).t o).t p).t s).t bu))) j ?_
    rintro a w _ g3 _ ⟨hu,rfl,rfl,e0⟩ fd d c;obtain ⟨b5,de,b6,df,b7,dg,b8,dh,b9,dj,ca,dk,cb,dl,rfl,d5,d6,d7,d8,d9,ea,eb⟩:=TQuery.inv.1 e0
    refine A d c j z_127 j j fun a w hn c d=>W q 0 d c j j j j j j j j j j fun a w c d=>E (T (S (G (R q 1 c j fun a c=>?_))))
    have d:=d.pick [1,0,2,3] (by decide) j;obtain ⟨h9,fy,f⟩:=bd f
    refine M 1 cl_64 d c j j (fun g=>(ref06_P_must.ok k) fy g (i.m (((((((l.t m).t n).t o).t p).t s).t bu).t fd))) j ?_
    rintro a w _ cr _ ⟨rfl,rfl⟩ ac d c;refine E (T (S (G (L d c j (B q 1 j j j j) j fun a c=>Bs ai_73 d c j j j j j fun a w c6 c d=>?_))))
    have e2:RL cr 10 ([bp.1].map TQuery.d) _:=(Rc (TQuery.inv.2 ⟨b5,de,b6,df,b7,dg,b8,dh,b9,dj,ca,dk,cb,dl,j,(d5.m ac),(d6.m ac),(d7.m ac),(d8.m ac),(d9.m ac),(ea.m ac),(eb.m ac)⟩) j Rn)
    refine L d c j (Bd q j z_75 j j) j fun a c=>W q 4 d c j j j j j j j j j j fun a w c d=>E (T ?_)
    obtain ⟨g4,h0,d,ec⟩:=(d.front 0).giveR (xs:=([bp.1]).map TQuery.d) (by simp) e2;refine V (Xr ?_);cases f
    refine U q c d (.cell 3 j j j j .nil) j ⟨_,_,_,j,(d.pick [0] (by decide) j),_,j,j,((TExpr.inv (x:=(TExpr.mk (12:Int) (0:Int) (⟨#[]⟩:ByteArray) (⟨#[]⟩:ByteArray) [] ([bp.1])))).2 ⟨none,0,(p_ c6),1,j,(Sn _ _ _ _ (Nat.zero_le _)),ec⟩)⟩
  replace f:=cf ba f;refine K (T (S (S (G (R q 1 c j fun a c=>?_)))));obtain ⟨bx,fz,f⟩:=bd f
  refine M 1 cl_61 d c j j (fun g=>(ref06_P_take.ok k) fz g (i.m (((((l.t m).t n).t o).t p).t s))) j ?_;rintro a w _ cu _ ⟨rfl,rfl⟩ y d c
  refine E (T (Cc (b:=bx.1) c j (fun a9=>?_) (fun a9=>?_)))
  · replace f:=ct a9 f
    refine S (G (L d c j (Bd q j z_75 j j) j fun a c=>A d c j z_75 j j fun a w c7 c d=>W q 0 d c j j j j j j j j j j fun a w c d=>E (T (S (S (G (R q 1 c j fun a c=>?_)))))))
    obtain ⟨bz,f0,f⟩:=bd f
    refine Cl (S:=fun _ L' u=>L'=[]∧u = .bool bz) cl_65 d c j j (by obtain ⟨cv,fe,d,ew⟩:=(d.front 1).giveB;have ed:Pt cv (p_ ax) 105 Tref06_P.d (some (Tref06_P.mk ab.T bx.2.I ab.Deep ab.At ab.E)):=Pm (Tref06_P.inv.2 ⟨au,ay,j,(i.m (((((((l.t m).t n).t o).t p).t s).t y).t fe))⟩) ew;exact ⟨_,(ref06_P_is.ok k) f0 d.pass0 ed⟩) (fun _ _ _ h=>h.2) j ?_
    intro a w d c;refine E (T ?_);obtain ⟨v,f,e3⟩:=bd f
    refine X c d (fun e L a' w'=>∃ ai av az aw a0,cu.le ai∧Env a' 159 (sl e [0,2,8] [])∧Inv bn a3 a2 ai [.blk c7 [i_ v.1,i_ v.2.1,.string v.2.2.1,.string v.2.2.2.1,.slice av v.2.2.2.2.1.length az,.slice aw v.2.2.2.2.2.1.length a0] 75,.blk ax [.slice au ab.T.length ay,i_ v.2.2.2.2.2.2.1,i_ v.2.2.2.2.2.2.2.1,i_ v.2.2.2.2.2.2.2.2.1,i_ v.2.2.2.2.2.2.2.2.2] 105,nt L 3] w'∧Sl ai av az 6 (v.2.2.2.2.1.map TExpr.d)∧Sl ai aw a0 10 (v.2.2.2.2.2.1.map TQuery.d)) ?_ ?_
    rotate_left
    · rintro a w ⟨ai,av,az,aw,a0,ff,c,d,ee,ef⟩;have f:=e3;refine T (S (G (R q 1 c j fun a c=>?_)));have d:=d.pick [1,0,2] (by decide) j
      obtain ⟨ia,f4,f⟩:=bd f
      refine M 1 cl_64 d c j j (fun g=>(ref06_P_must.ok k) f4 g (i.m (((((((l.t m).t n).t o).t p).t s).t y).t ff))) j ?_
      rintro a w _ g8 _ ⟨rfl,rfl⟩ bv d c
      refine E (T (S (G (L d c j (B q 1 j j j j) j fun a c=>W q 2 d c j j j j j j j j j j fun a w c d=>E (T (V (Xr ?_)))))));cases f
      refine U q c d (.cell 2 j j j j .nil) j ⟨_,_,_,j,(d.pick [0] (by decide) j),_,j,j,((TExpr.inv (x:=(TExpr.mk v.1 v.2.1 v.2.2.1 v.2.2.2.1 v.2.2.2.2.1 v.2.2.2.2.2.1))).2 ⟨av,az,aw,a0,j,(ee.m bv),(ef.m bv)⟩)⟩
    refine Cc (b:=bz) c j (fun a5=>?_) (fun a5=>?_);rotate_left
    · replace f:=cf a5 f;refine G (R q 1 c j fun a c=>?_);have d:=d.pick [1,0,2,3] (by decide) j;obtain ⟨ib,f8,f⟩:=bd f
      refine M 1 cl_81 d c j j (fun g=>hs_ref06_P_Expr f8 g (i.m ((((((l.t m).t n).t o).t p).t s).t y))) j ?_
      rintro a w _ cy _ ⟨hw,rfl,rfl,e6⟩ fi d c;obtain ⟨ck,du,cl,dv,rfl,eo,ep⟩:=TExpr.inv.1 e6
      refine W q 1 d c j j j j j j j j j j fun a w c d=>E (T ?_);cases f;exact ⟨cy,ck,du,cl,dv,fi,c.kp j,(d.pick [1,0,3] (by decide) j),eo,ep⟩
    replace f:=ct a5 f;refine G (R q 1 c j fun a c=>?_);have d:=d.pick [1,0,2,3] (by decide) j;obtain ⟨b0,f6,f⟩:=bd f
    refine M 1 cl_95 d c j j (fun g=>hs_ref06_P_Query f6 g (i.m ((((((l.t m).t n).t o).t p).t s).t y))) j ?_
    rintro a w _ cw _ ⟨hv,rfl,rfl,e4⟩ fg d c;obtain ⟨cc,dm,cd,dn,ce,dp,cg,dq,ch,dr,ci,ds,cj,dt,rfl,eg,eh,ei,ej,ek,el,em⟩:=TQuery.inv.1 e4
    refine Bs ai_73 d c j j j j j fun a w c8 c d=>?_
    have e5:RL cw 10 ([b0.1].map TQuery.d) _:=(Rc (TQuery.inv.2 ⟨cc,dm,cd,dn,ce,dp,cg,dq,ch,dr,ci,ds,cj,dt,j,eg,eh,ei,ej,ek,el,em⟩) j Rn)
    refine L d c j (Bd q j z_75 j j) j fun a c=>W q 2 d c j j j j j j j j j j fun a w c d=>E (T ?_)
    obtain ⟨cx,fh,d,en⟩:=(d.front 0).giveR (xs:=([b0.1]).map TQuery.d) (by simp) e5;cases f
    exact ⟨cx,none,0,(p_ c8),1,(fg.t fh),c.kp j,(d.pick [1,0,3] (by decide) j),(Sn _ _ _ _ (Nat.zero_le _)),en⟩
  replace f:=cf a9 f;refine K (T (S (G (R q 1 c j fun a c=>?_))));obtain ⟨z,f9,f⟩:=bd f
  refine M 1 cl_63 d c j j (fun g=>(ref06_P_name.ok k) f9 g (i.m ((((((l.t m).t n).t o).t p).t s).t y))) j ?_
  rintro a w _ bt _ ⟨rfl,rfl⟩ aa d c;refine R q 1 c j fun a c=>E (T (S (S ?_)));obtain ⟨bl,f,e7⟩:=bd f
  refine X c d (fun e L a' w'=>∃ aj,bt.le aj∧Env a' 159 (sl e [0,2,9] [(132,.bool bl.1)])∧Inv bn a3 a2 aj [.blk ax [.slice au ab.T.length ay,i_ bl.2,i_ ab.Deep,i_ z.2.At,i_ z.2.E] 105,nt L 2] w') ?_ ?_
  · refine G (R q 3 c j fun a c=>?_);rcases Bo (decide (z.1=(⟨#[99,111,117,110,116]⟩:ByteArray))) with al | al
    · replace f:=ct al f;have c:=c.tr (t:=117) j al;refine R q 13 c j fun a c=>?_;obtain ⟨ih,gi,f⟩:=bd f
      refine M 1 cl_61 d c j j (fun g=>(ref06_P_take.ok k) gi g (i.m (((((((l.t m).t n).t o).t p).t s).t y).t aa))) j ?_
      rintro a w _ c1 _ ⟨rfl,rfl⟩ fn d c;refine R q 1 c j fun a c=>E (T ?_);cases f;exact ⟨c1,fn,c.kp j,(d.pick [0,2] (by decide) j)⟩
    replace f:=cf al f;have c:=c.tr (t:=117) j al;refine R q 4 c j fun a c=>?_;rcases Bo (decide (z.1=(⟨#[115,117,109]⟩:ByteArray))) with am | am
    · replace f:=ct am f;have c:=c.tr (t:=121) j am;refine R q 9 c j fun a c=>?_;obtain ⟨ii,gj,f⟩:=bd f
      refine M 1 cl_61 d c j j (fun g=>(ref06_P_take.ok k) gj g (i.m (((((((l.t m).t n).t o).t p).t s).t y).t aa))) j ?_
      rintro a w _ c2 _ ⟨rfl,rfl⟩ fo d c;refine R q 1 c j fun a c=>E (T ?_);cases f;exact ⟨c2,fo,c.kp j,(d.pick [0,2] (by decide) j)⟩
    replace f:=cf am f;have c:=c.tr (t:=121) j am;refine R q 4 c j fun a c=>?_;rcases Bo (decide (z.1=(⟨#[109,105,110]⟩:ByteArray))) with an | an
    · replace f:=ct an f;have c:=c.tr (t:=125) j an;refine R q 5 c j fun a c=>?_;obtain ⟨ij,gk,f⟩:=bd f
      refine M 1 cl_61 d c j j (fun g=>(ref06_P_take.ok k) gk g (i.m (((((((l.t m).t n).t o).t p).t s).t y).t aa))) j ?_
      rintro a w _ c3 _ ⟨rfl,rfl⟩ fp d c;refine R q 1 c j fun a c=>E (T ?_);cases f;exact ⟨c3,fp,c.kp j,(d.pick [0,2] (by decide) j)⟩
    replace f:=cf an f;have c:=c.tr (t:=125) j an;refine R q 4 c j fun a c=>?_;rcases Bo (decide (z.1=(⟨#[109,97,120]⟩:ByteArray))) with ao | ao;rotate_left
    · replace f:=cf ao f;have c:=c.tr (t:=129) j ao;refine R q 3 c j fun a c=>E (T ?_);cases f;exact ⟨bt,rf,c.kp j,(d.pick [0,2] (by decide) j)⟩
    replace f:=ct ao f;have c:=c.tr (t:=129) j ao;refine R q 1 c j fun a c=>?_;obtain ⟨ik,gl,f⟩:=bd f
    refine M 1 cl_61 d c j j (fun g=>(ref06_P_take.ok k) gl g (i.m (((((((l.t m).t n).t o).t p).t s).t y).t aa))) j ?_
    rintro a w _ c4 _ ⟨rfl,rfl⟩ fq d c;refine R q 1 c j fun a c=>E (T ?_);cases f;exact ⟨c4,fq,c.kp j,(d.pick [0,2] (by decide) j)⟩
  rintro a w ⟨aj,af,c,d⟩;have f:=e7;refine T (Cc (b:=bl.1) c j (fun a8=>?_) (fun a8=>?_));rotate_left
  · replace f:=cf a8 f;refine K (T (S (S (G (R q 1 c j fun a c=>?_)))));obtain ⟨gv,gg,f⟩:=bd f
    refine M 1 cl_61 d c j j (fun g=>(ref06_P_take.ok k) gg g (i.m ((((((((l.t m).t n).t o).t p).t s).t y).t aa).t af))) j ?_
    rintro a w _ hg _ ⟨rfl,rfl⟩ fm d c;refine E (T (Cc (b:=gv.1) c j (fun a7=>?_) (fun a7=>?_)));rotate_left
    · replace f:=cf a7 f
      refine K (T (S (G (R q 1 c j fun a c=>L d c j (Bd q j z_75 j j) j fun a c=>W q 1 d c j j j j j j j j j j fun a w c d=>E (T (V ?_))))))
      cases f
      refine U q c d (.cell 1 j j j j .nil) j ⟨_,_,_,j,(d.pick [0] (by decide) j),_,j,j,((TExpr.inv (x:=(TExpr.mk (5:Int) (0:Int) z.1 (⟨#[]⟩:ByteArray) [] []))).2 ⟨none,0,none,0,j,(Sn _ _ _ _ (Nat.zero_le _)),(Sn _ _ _ _ (Nat.zero_le _))⟩)⟩
    replace f:=ct a7 f;refine S (G (R q 2 c j fun a c=>?_));obtain ⟨gw,gh,f⟩:=bd f
    refine M 1 cl_63 d c j j (fun g=>(ref06_P_name.ok k) gh g (i.m (((((((((l.t m).t n).t o).t p).t s).t y).t aa).t af).t fm))) j ?_
    rintro a w _ hh _ ⟨rfl,rfl⟩ h4 d c
    refine L d c j (Bd q j z_75 j j) j fun a c=>W q 1 d c j j j j j j j j j j fun a w c d=>E (T (V (Xr ?_)));cases f
    refine U q c d (.cell 1 j j j j .nil) j ⟨_,_,_,j,(d.pick [0] (by decide) j),_,j,j,((TExpr.inv (x:=(TExpr.mk (5:Int) (0:Int) gw.1 z.1 [] []))).2 ⟨none,0,none,0,j,(Sn _ _ _ _ (Nat.zero_le _)),(Sn _ _ _ _ (Nat.zero_le _))⟩)⟩
  replace f:=ct a8 f
  refine S (G (R q 1 c j fun a c=>L d c j (Bd q j z_75 j j) j fun a c=>A d c j z_75 j j fun a w hq c d=>W q 0 d c j j j j j j j j j j fun a w c d=>E (T (S (S ?_)))))
  obtain ⟨bm,f,e8⟩:=bd f
  refine X c d (fun e L a' w'=>∃ a4,aj.le a4∧Env a' 159 (sl e [0,2,10] [(140,.bool bm.1)])∧Inv bn a3 a2 a4 [nt L 0,.blk ax [.slice au ab.T.length ay,i_ bm.2,i_ ab.Deep,i_ z.2.At,i_ z.2.E] 105,nt L 2] w') ?_ ?_
  · refine G (R q 3 c j fun a c=>?_);rcases Bo (decide (z.1=(⟨#[99,111,117,110,116]⟩:ByteArray))) with ak | ak;rotate_left
    · replace f:=cf ak f;have c:=c.tr (t:=137) j ak;refine R q 3 c j fun a c=>E (T ?_);cases f;exact ⟨aj,rf,c.kp j,d⟩
    replace f:=ct ak f;have c:=c.tr (t:=137) j ak;refine R q 1 c j fun a c=>?_;have d:=d.pick [1,0,2] (by decide) j;obtain ⟨ig,gf,f⟩:=bd f
    refine M 1 cl_61 d c j j (fun g=>(ref06_P_take.ok k) gf g (i.m ((((((((l.t m).t n).t o).t p).t s).t y).t aa).t af))) j ?_
    rintro a w _ c0 _ ⟨rfl,rfl⟩ fl d c;refine R q 1 c j fun a c=>E (T ?_);cases f;exact ⟨c0,fl,c.kp j,(d.pick [1,0,2] (by decide) j)⟩
  rintro a w ⟨a4,bk,c,d⟩;have f:=e8;refine T (Cc (b:=bm.1) c j (fun a6=>?_) (fun a6=>?_))
  · replace f:=ct a6 f;refine S (G (R q 1 c j fun a c=>?_));have d:=d.pick [1,0,2] (by decide) j;obtain ⟨ic,gb,f⟩:=bd f
    refine M 1 cl_64 d c j j (fun g=>(ref06_P_must.ok k) gb g (i.m (((((((((l.t m).t n).t o).t p).t s).t y).t aa).t af).t bk))) j ?_
    rintro a w _ hb _ ⟨rfl,rfl⟩ h2 d c
    refine E (T (S (G (L d c j (B q 1 j j j j) j fun a c=>W q 2 d c j j j j j j j j j j fun a w c d=>E (T (V (Xr (Xr ?_))))))))
    cases f
    refine U q c d (.cell 2 j j j j .nil) j ⟨_,_,_,j,(d.pick [0] (by decide) j),_,j,j,((TExpr.inv (x:=(TExpr.mk (15:Int) (0:Int) z.1 (⟨#[]⟩:ByteArray) [] []))).2 ⟨none,0,none,0,j,(Sn _ _ _ _ (Nat.zero_le _)),(Sn _ _ _ _ (Nat.zero_le _))⟩)⟩
  replace f:=cf a6 f;refine K (T (S (G (R q 1 c j fun a c=>?_))));have d:=d.pick [1,0,2] (by decide) j;obtain ⟨bq,gc,f⟩:=bd f
  refine M 1 cl_81 d c j j (fun g=>hs_ref06_P_Expr gc g (i.m (((((((((l.t m).t n).t o).t p).t s).t y).t aa).t af).t bk))) j ?_
  rintro a w _ cz _ ⟨hx,rfl,rfl,e9⟩ fj d c;obtain ⟨cm,dw,cn,dx,rfl,eq,er⟩:=TExpr.inv.1 e9;refine Bs ai_49 d c j j j j j fun a w c9 c d=>?_
  have fa:RL cz 6 ([bq.1].map TExpr.d) _:=(Rc (TExpr.inv.2 ⟨cm,dw,cn,dx,j,eq,er⟩) j Rn)
  refine R q 1 c j fun a c=>W q 2 d c j j j j j j j j j j fun a w c d=>E (T (S (G (R q 1 c j fun a c=>?_))))
  have d:=d.pick [1,0,2,3] (by decide) j;obtain ⟨ie,ge,f⟩:=bd f
  refine M 1 cl_64 d c j j (fun g=>(ref06_P_must.ok k) ge g (i.m ((((((((((l.t m).t n).t o).t p).t s).t y).t aa).t af).t bk).t fj))) j ?_
  rintro a w _ hd _ ⟨rfl,rfl⟩ fk d c
  refine E (T (S (G (L d c j (B q 2 j j j j) j fun a c=>W q 3 d c j j j j j j j j j j fun a w c d=>E (T ?_)))))
  obtain ⟨he,h3,d,es⟩:=(d.front 1).giveR (xs:=([bq.1]).map TExpr.d) (by simp) (fa.m fk);refine V (Xr ?_);cases f
  refine U q c d (.cell 2 j j j j .nil) j ⟨_,_,_,j,(d.pick [0] (by decide) j),_,j,j,((TExpr.inv (x:=(TExpr.mk (15:Int) (0:Int) z.1 (⟨#[]⟩:ByteArray) ([bq.1]) []))).2 ⟨(p_ c9),1,none,0,j,es,(Sn _ _ _ _ (Nat.zero_le _))⟩)⟩

theorem ref06_P_one.F_ok (k:Nat) (s_ref06_P_Expr:Tref06_P→Option (TExpr × Tref06_P)) (s_ref06_P_and:Tref06_P→Option (TExpr × Tref06_P)) (s_ref06_P_not:Tref06_P→Option (TExpr × Tref06_P)) (s_ref06_P_cmp:Tref06_P→Option (TExpr × Tref06_P)) (s_ref06_P_sum:Tref06_P→Option (TExpr × Tref06_P)) (s_ref06_P_Query:Tref06_P→Option (TQuery × Tref06_P)) (s_ref06_P_prod:Tref06_P→Option (TExpr × Tref06_P)) (s_ref06_P_part:Tref06_P→Option (TQuery × Tref06_P)) (s_ref06_P_unary:Tref06_P→Option (TExpr × Tref06_P)) (s_ref06_P_src:Tref06_P→Option (TFrom × Tref06_P)) (s_ref06_P_exprs:Tref06_P→Option ((List TExpr) × Tref06_P)) (s_ref06_P_prim:Tref06_P→Option (TExpr × Tref06_P)) (s_ref06_P_one:Tref06_P→Option (TFrom × Tref06_P)) (hs_ref06_P_Expr:ref06_P_Expr.C s_ref06_P_Expr) (hs_ref06_P_and:ref06_P_and.C s_ref06_P_and) (hs_ref06_P_not:ref06_P_not.C s_ref06_P_not) (hs_ref06_P_cmp:ref06_P_cmp.C s_ref06_P_cmp) (hs_ref06_P_sum:ref06_P_sum.C s_ref06_P_sum) (hs_ref06_P_Query:ref06_P_Query.C s_ref06_P_Query) (hs_ref06_P_prod:ref06_P_prod.C s_ref06_P_prod) (hs_ref06_P_part:ref06_P_part.C s_ref06_P_part) (hs_ref06_P_unary:ref06_P_unary.C s_ref06_P_unary) (hs_ref06_P_src:ref06_P_src.C s_ref06_P_src) (hs_ref06_P_exprs:ref06_P_exprs.C s_ref06_P_exprs) (hs_ref06_P_prim:ref06_P_prim.C s_ref06_P_prim) (hs_ref06_P_one:ref06_P_one.C s_ref06_P_one):ref06_P_one.C (ref06_P_one.F k s_ref06_P_Expr s_ref06_P_and s_ref06_P_not s_ref06_P_cmp s_ref06_P_sum s_ref06_P_Query s_ref06_P_prod s_ref06_P_part s_ref06_P_unary s_ref06_P_src s_ref06_P_exprs s_ref06_P_prim s_ref06_P_one):=by
  intro ay r f bf a1 a0 a3 az a4 d o
  unfold ref06_P_one.F at f
  refine Ci 33 Tryz.func102 j j j fun a c=>?_
  refine S (G (A d c j z_148 j j fun a w bk c d=>E (T (S (S (G (R q 1 c j fun a c=>?_)))))));have d:=d.pick [1,0] (by decide) j;obtain ⟨b2,b0,f⟩:=bd f
  refine M 1 cl_61 d c j j (fun h=>(ref06_P_take.ok k) b0 h o) j ?_;rintro a w _ b3 _ ⟨rfl,rfl⟩ p d c;refine E (T (Cc (b:=b2.1) c j (fun aw=>?_) (fun aw=>?_)))
  rotate_left
  · replace f:=cf aw f;refine K (T (S (G (R q 1 c j fun a c=>?_))));obtain ⟨bg,bs,f⟩:=bd f
    refine M 1 cl_63 d c j j (fun h=>(ref06_P_name.ok k) bs h (o.m p)) j ?_;rintro a w _ b4 _ ⟨rfl,rfl⟩ ax d c
    refine R q 1 c j fun a c=>E (T (S (G (R q 2 c j fun a c=>L d c j (Bd q j z_148 j j) j fun a c=>A d c j z_148 j j fun a w bj c d=>W q 0 d c j j j j j j j j j j fun a w c d=>E (T (S (G (R q 1 c j fun a c=>?_))))))))
    have d:=d.pick [1,0,2] (by decide) j;obtain ⟨bh,bt,f⟩:=bd f;refine M 1 cl_61 d c j j (fun h=>(ref06_P_take.ok k) bt h (o.m (p.t ax))) j ?_
    rintro a w _ b5 _ ⟨rfl,rfl⟩ bc d c
    refine R q 1 c j fun a c=>W q 1 d c j j j j j j j j j j fun a w c d=>E (T (S (S (G (R q 1 c j fun a c=>?_)))))
    obtain ⟨b1,bu,f⟩:=bd f;refine M 1 cl_61 d c j j (fun h=>(ref06_P_take.ok k) bu h (o.m ((p.t ax).t bc))) j ?_;rintro a w _ a2 _ ⟨rfl,rfl⟩ bq d c
    refine E (T ?_);obtain ⟨s,f,bm⟩:=bd f
    refine X c d (fun e L a' w'=>∃ ao,a2.le ao∧Env a' 33 (sl e [2,5] [])∧Inv bf a1 a0 ao [.blk a3 [.slice az ay.T.length a4,i_ s.1,i_ ay.Deep,i_ s.2.1,i_ s.2.2.1] 105,.blk bj [i_ (1:Int),.string bg.1,.bool bh.1,.string s.2.2.2,.slice none 0 0,.slice none 0 0,.slice none 0 0] 148,nt L 2] w') ?_ ?_
    rotate_left
    · rintro a w ⟨ao,cc,c,d⟩;have f:=bm
      refine T (S (G (L d c j (B q 1 j j j j) j fun a c=>W q 2 d c j j j j j j j j j j fun a w c d=>E (T (V ?_)))));cases f
      refine U q c d (.cell 2 j j j j .nil) j ⟨_,_,_,j,(d.pick [0] (by decide) j),_,j,j,((TFrom.inv (x:=(TFrom.mk (1:Int) bg.1 bh.1 s.2.2.2 [] [] []))).2 ⟨none,0,none,0,none,0,j,(Sn _ _ _ _ (Nat.zero_le _)),(Sn _ _ _ _ (Nat.zero_le _)),(Sn _ _ _ _ (Nat.zero_le _))⟩)⟩
    refine Cc (b:=b1.1) c j (fun av=>?_) (fun av=>?_);rotate_left
    · replace f:=cf av f;refine K (T ?_);cases f;exact ⟨a2,rf,c.kp j,d⟩
    replace f:=ct av f;refine G (R q 1 c j fun a c=>?_);obtain ⟨ch,bv,f⟩:=bd f
    refine M 1 cl_63 d c j j (fun h=>(ref06_P_name.ok k) bv h (o.m (((p.t ax).t bc).t bq))) j ?_;rintro a w _ bi _ ⟨rfl,rfl⟩ br d c
    refine R q 1 c j fun a c=>W q 1 d c j j j j j j j j j j fun a w c d=>E (T ?_);cases f;exact ⟨bi,br,c.kp j,d⟩
  replace f:=ct aw f;refine S (G (R q 1 c j fun a c=>?_));obtain ⟨g,bw,f⟩:=bd f;refine M 1 cl_95 d c j j (fun h=>hs_ref06_P_Query bw h (o.m p)) j ?_
  rintro a w _ b6 _ ⟨ca,rfl,rfl,bn⟩ an d c;obtain ⟨t,af,u,ag,v,ah,y,ai,z,aj,aa,ak,ab,al,rfl,a5,a6,a7,a8,a9,ba,bb⟩:=TQuery.inv.1 bn
  refine A d c j z_127 j j fun a w b9 c d=>W q 0 d c j j j j j j j j j j fun a w c d=>E (T (S (G (R q 1 c j fun a c=>?_))))
  have d:=d.pick [1,0,2] (by decide) j;obtain ⟨ci,bx,f⟩:=bd f;refine M 1 cl_64 d c j j (fun h=>(ref06_P_must.ok k) bx h (o.m (p.t an))) j ?_
  rintro a w _ b7 _ ⟨rfl,rfl⟩ i d c;refine E (T (S (G (R q 1 c j fun a c=>?_))));obtain ⟨cj,bz,f⟩:=bd f
  refine M 1 cl_64 d c j j (fun h=>(ref06_P_must.ok k) bz h (o.m ((p.t an).t i))) j ?_;rintro a w _ ap _ ⟨rfl,rfl⟩ l d c;refine E (T (S ?_))
  have d:=d.nilrow 127 10;have cb:RL ap 10 (([]:List TQuery).map TQuery.d) []:=Rn;obtain ⟨n,f,bp⟩:=bd f
  refine X c d (fun e L a' w'=>∃ ae ac am ar,ap.le ae∧Env a' 33 (sl e [2] [])∧Inv bf a1 a0 ae [.row (.slice ac n.1.length am) 127 10 n.1.length ar,.blk a3 [.slice az ay.T.length a4,i_ n.2.1,i_ g.2.Deep,i_ n.2.2.1,i_ n.2.2.2.1] 105,.blk bk [i_ (2:Int),.string (⟨#[]⟩:ByteArray),.bool false,.string n.2.2.2.2,.slice ac n.1.length am,.slice none 0 0,.slice none 0 0] 148] w'∧RL ae 10 (n.1.map TQuery.d) ar) ?_ ?_
  rotate_left
  · rintro a w ⟨ae,ac,am,ar,cd,c,d,bo⟩;have f:=bp;refine T ?_;obtain ⟨b8,ce,d,bl⟩:=(d.front 0).giveR (xs:=n.1.map TQuery.d) (by simp) bo;refine V (Xr ?_);cases f
    refine U q c d (.cell 1 j j j j .nil) j ⟨_,_,_,j,(d.pick [0] (by decide) j),_,j,j,((TFrom.inv (x:=(TFrom.mk (2:Int) (⟨#[]⟩:ByteArray) false n.2.2.2.2 n.1 [] []))).2 ⟨ac,am,none,0,none,0,j,bl,(Sn _ _ _ _ (Nat.zero_le _)),(Sn _ _ _ _ (Nat.zero_le _))⟩)⟩
  obtain ⟨cg,be,f⟩:=bd f
  refine Mx [2] [3,5] (.step 0 0 (.step 2 1 (.or 1 2 (.step 3 3 (.step 4 0 (.step 5 3 .nil))) (.step 3 3 (.step 1 2 (.step 4 0 (.step 5 3 .nil))))))) mixed (by kernel_rfl) d (by decide) j fun w d hS=>H q 1 c j fun a c=>Dd hS c j j (Rw fun _=>(B q 0 j j j j)) j fun a c=>d_or j ?_ ?_
  · have d:=d.pick [1,0,2,3] (by decide) j;refine M 1 cl_63 d c j j (fun h=>(ref06_P_name.ok k) be h (o.m (((p.t an).t i).t l))) j ?_
    rintro a w _ ad _ ⟨rfl,rfl⟩ m d c;refine d_nextoE (d.sw [2] (by decide) j m) fun hS=>Dl j (Bs ai_73 d c j j j j j fun a w aq c d=>?_)
    have au:RL ad 10 ([g.1].map TQuery.d) _:=(Rc (TQuery.inv.2 ⟨t,af,u,ag,v,ah,y,ai,z,aj,aa,ak,ab,al,j,(a5.m ((i.t l).t m)),(a6.m ((i.t l).t m)),(a7.m ((i.t l).t m)),(a8.m ((i.t l).t m)),(a9.m ((i.t l).t m)),(ba.m ((i.t l).t m)),(bb.m ((i.t l).t m))⟩) j Rn)
    refine Dn (Dr c j j (Bd q j z_148 j j) j fun a c=>Dl j (W q 4 d c j j j j j j j j j j fun a w c d=>Dn (Dz (T ?_))));cases f
    exact ⟨ad,(p_ aq),1,[i_ g.1.Kind,.bool g.1.Distinct,.slice t g.1.Items.length af,.slice u g.1.From.length ag,.slice v g.1.Where.length ah,.slice y g.1.Group.length ai,.slice z g.1.Having.length aj,.slice aa g.1.Order.length ak,i_ g.1.Limit,.slice ab g.1.Kids.length al],m,c.kp j,(d.pick [0,1,4] (by decide) j),au⟩
  refine Dl j (Bs ai_73 d c j j j j j fun a w aq c d=>?_)
  have au:RL ap 10 ([g.1].map TQuery.d) _:=(Rc (TQuery.inv.2 ⟨t,af,u,ag,v,ah,y,ai,z,aj,aa,ak,ab,al,j,(a5.m (i.t l)),(a6.m (i.t l)),(a7.m (i.t l)),(a8.m (i.t l)),(a9.m (i.t l)),(ba.m (i.t l)),(bb.m (i.t l))⟩) j Rn)
  refine Dn (Df j ?_);have d:=d.pick [2,0,1,3,4] (by decide) j
  refine M 1 cl_63 d c j j (fun h=>(ref06_P_name.ok k) be h (o.m (((p.t an).t i).t l))) j ?_;rintro a w _ ad _ ⟨rfl,rfl⟩ m d c
  refine De (d.sw [3] (by decide) j m) fun hS=>Dr c j j (Bd q j z_148 j j) j fun a c=>Dl j (W q 4 d c j j j j j j j j j j fun a w c d=>Dn (Dz (T ?_)))
  cases f
  exact ⟨ad,(p_ aq),1,[i_ g.1.Kind,.bool g.1.Distinct,.slice t g.1.Items.length af,.slice u g.1.From.length ag,.slice v g.1.Where.length ah,.slice y g.1.Group.length ai,.slice z g.1.Having.length aj,.slice aa g.1.Order.length ak,i_ g.1.Limit,.slice ab g.1.Kids.length al],m,c.kp j,(d.pick [1,0,4] (by decide) j),(au.m m)⟩
end Go.Proofs.YtliaopbgkcdibaaGreat
