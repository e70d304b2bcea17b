/- The contracts: what the machine does at a call is what the plain function says. Written by mk.py. -/
import Derived.Test.YtliaopbgkcdibaaGreatCgP7
import Derived.Test.YtliaopbgkcdibaaGreatCgP8
set_option linter.unusedVariables false
set_option linter.unusedSimpArgs false
set_option maxRecDepth 100000
namespace Go.Proofs.YtliaopbgkcdibaaGreat
open Go.RowKit
theorem ref06_P_part.F_ok (k:Nat) (s_ref06_P_Expr:Tref06_P→Option (TExpr × Tref06_P)) (s_ref06_P_and:Tref06_P→Option (TExpr × Tref06_P)) (s_ref06_P_not:Tref06_P→Option (TExpr × Tref06_P)) (s_ref06_P_cmp:Tref06_P→Option (TExpr × Tref06_P)) (s_ref06_P_sum:Tref06_P→Option (TExpr × Tref06_P)) (s_ref06_P_Query:Tref06_P→Option (TQuery × Tref06_P)) (s_ref06_P_prod:Tref06_P→Option (TExpr × Tref06_P)) (s_ref06_P_part:Tref06_P→Option (TQuery × Tref06_P)) (s_ref06_P_unary:Tref06_P→Option (TExpr × Tref06_P)) (s_ref06_P_src:Tref06_P→Option (TFrom × Tref06_P)) (s_ref06_P_exprs:Tref06_P→Option ((List TExpr) × Tref06_P)) (s_ref06_P_prim:Tref06_P→Option (TExpr × Tref06_P)) (s_ref06_P_one:Tref06_P→Option (TFrom × Tref06_P)) (hs_ref06_P_Expr:ref06_P_Expr.C s_ref06_P_Expr) (hs_ref06_P_and:ref06_P_and.C s_ref06_P_and) (hs_ref06_P_not:ref06_P_not.C s_ref06_P_not) (hs_ref06_P_cmp:ref06_P_cmp.C s_ref06_P_cmp) (hs_ref06_P_sum:ref06_P_sum.C s_ref06_P_sum) (hs_ref06_P_Query:ref06_P_Query.C s_ref06_P_Query) (hs_ref06_P_prod:ref06_P_prod.C s_ref06_P_prod) (hs_ref06_P_part:ref06_P_part.C s_ref06_P_part) (hs_ref06_P_unary:ref06_P_unary.C s_ref06_P_unary) (hs_ref06_P_src:ref06_P_src.C s_ref06_P_src) (hs_ref06_P_exprs:ref06_P_exprs.C s_ref06_P_exprs) (hs_ref06_P_prim:ref06_P_prim.C s_ref06_P_prim) (hs_ref06_P_one:ref06_P_one.C s_ref06_P_one):ref06_P_part.C (ref06_P_part.F k s_ref06_P_Expr s_ref06_P_and s_ref06_P_not s_ref06_P_cmp s_ref06_P_sum s_ref06_P_Query s_ref06_P_prod s_ref06_P_part s_ref06_P_unary s_ref06_P_src s_ref06_P_exprs s_ref06_P_prim s_ref06_P_one):=by
  intro ai r g ay ar aq au ao aw d i
  unfold ref06_P_part.F at g
  refine Ci 87 Tryz.func97 j j j fun a c=>?_
  refine S (G (A d c j z_127 j j fun a w h4 c d=>E (T (S (S (G (R q 1 c j fun a c=>?_)))))));have d:=d.pick [1,0] (by decide) j;obtain ⟨hl,hc,g⟩:=bd g
  refine M 1 cl_61 d c j j (fun h=>(ref06_P_take.ok k) hc h i) j ?_;rintro a w _ hm _ ⟨rfl,rfl⟩ l d c;refine E (T (Cc (b:=hl.1) c j (fun c4=>?_) (fun c4=>?_)))
  · replace g:=ct c4 g;refine S (G (R q 1 c j fun a c=>?_));obtain ⟨im,g6,g⟩:=bd g;refine M 1 cl_95 d c j j (fun h=>hs_ref06_P_Query g6 h (i.m l)) j ?_
    rintro a w _ hx _ ⟨ib,rfl,rfl,gg⟩ gp d c;obtain ⟨ef,ex,eg,ey,eh,ez,ei,e0,ej,e1,ek,e2,el,e3,rfl,fk,fl,fm,fn,fo,fp,fq⟩:=TQuery.inv.1 gg
    refine A d c j z_127 j j fun a w h5 c d=>W q 0 d c j j j j j j j j j j fun a w c d=>E (T (S (G (R q 1 c j fun a c=>?_))))
    have d:=d.pick [1,0,2] (by decide) j;obtain ⟨io,ha,g⟩:=bd g;refine M 1 cl_64 d c j j (fun h=>(ref06_P_must.ok k) ha h (i.m (l.t gp))) j ?_
    rintro a w _ hy _ ⟨rfl,rfl⟩ bb d c
    refine E (T (S (G (L d c j (B q 1 j j j j) j fun a c=>W q 2 d c j j j j j j j j j j fun a w c d=>E (T (V (Xr ?_)))))));cases g
    refine U q c d (.cell 2 j j j j .nil) j ⟨_,_,_,j,(d.pick [0] (by decide) j),_,j,j,(TQuery.inv.2 ⟨ef,ex,eg,ey,eh,ez,ei,e0,ej,e1,ek,e2,el,e3,j,(fk.m bb),(fl.m bb),(fm.m bb),(fn.m bb),(fo.m bb),(fp.m bb),(fq.m bb)⟩)⟩
  replace g:=cf c4 g;refine K (T (S (G (R q 1 c j fun a c=>?_))));obtain ⟨ip,hd,g⟩:=bd g
  refine M 1 cl_64 d c j j (fun h=>(ref06_P_must.ok k) hd h (i.m l)) j ?_;rintro a w _ hz _ ⟨rfl,rfl⟩ m d c
  refine E (T (S (G (L d c j (Bd q j z_127 j j) j fun a c=>A d c j z_127 j j fun a w av c d=>W q 0 d c j j j j j j j j j j fun a w c d=>E (T (S (G (R q 1 c j fun a c=>?_))))))))
  have d:=d.pick [1,0,2] (by decide) j;obtain ⟨an,he,g⟩:=bd g;refine M 1 cl_61 d c j j (fun h=>(ref06_P_take.ok k) he h (i.m (l.t m))) j ?_
  rintro a w _ cb _ ⟨rfl,rfl⟩ o d c
  refine R q 1 c j fun a c=>W q 1 d c j j j j j j j j j j fun a w c d=>E (T (S (G (R q 1 c j fun a c=>E (T (S ?_))))))
  have d:=d.nilrow 143 7;have f8:RL cb 7 (([]:List TItem).map TItem.d) []:=Rn;obtain ⟨ec,a7,ft⟩:=bd g
  refine X c d (fun e L a' w'=>∃ p b8 af ag cr,ec = .go p∧cb.le b8∧Env a' 87 (sl e [0,2,4] [])∧Inv ay ar aq b8 [.row (.slice af p.1.length ag) 143 7 p.1.length cr,.blk au [.slice ao ai.T.length aw,i_ p.2.2.1,i_ p.2.2.2.1,i_ p.2.2.2.2.1,i_ p.2.2.2.2.2] 105,.blk av [i_ (1:Int),.bool an.1,.slice af p.1.length ag,.slice none 0 0,.slice none 0 0,.slice none 0 0,.slice none 0 0,.slice none 0 0,i_ (-1:Int),.slice none 0 0] 127,nt L 3] w'∧RL b8 7 (p.1.map TItem.d) cr) ?_ ?_
  ·
    refine O (Q c d (fun e L n' a' w'=>∃ ad bn b6 ce br,whileL (ref06_P_part.b1 k s_ref06_P_Expr s_ref06_P_and s_ref06_P_not s_ref06_P_cmp s_ref06_P_sum s_ref06_P_Query s_ref06_P_prod s_ref06_P_part s_ref06_P_unary s_ref06_P_src s_ref06_P_exprs s_ref06_P_prim s_ref06_P_one ai) n' ad=some ec∧cb.le bn∧Env a' 87 (sl e [0,2,4] [(5,.bool ad.2.1)])∧Inv ay ar aq bn [.row (.slice b6 ad.1.length ce) 143 7 ad.1.length br,.blk au [.slice ao ai.T.length aw,i_ ad.2.2.1,i_ ad.2.2.2.1,i_ ad.2.2.2.2.1,i_ ad.2.2.2.2.2] 105,.blk av [i_ (1:Int),.bool an.1,.slice b6 ad.1.length ce,.slice none 0 0,.slice none 0 0,.slice none 0 0,.slice none 0 0,.slice none 0 0,i_ (-1:Int),.slice none 0 0] 127,nt L 3] w'∧RL bn 7 (ad.1.map TItem.d) br) _ ⟨_,cb,none,0,[],a7,rf,c.kp j,d,f8⟩ ?_)
    rintro c6 a w ⟨ad,bn,b6,ce,br,a7,bj,c,d,d5⟩;rcases c6 with _ | c6
    · cases a7
    obtain ⟨id,g,a7⟩:=Wh a7;unfold ref06_P_part.b1 at g;refine S (S (G (R q 1 c j fun a c=>E (T (Cc (b:=ad.2.1) c j (fun c3=>?_) (fun c3=>?_))))))
    rotate_left
    · replace g:=cf c3 g;refine Ex (Xe (Xe (Xh (T ?_))));cases g;obtain rfl:=Wb a7;exact ⟨_,bn,b6,ce,br,j,bj,c.kp j,d,d5⟩
    replace g:=ct c3 g;refine K (T (O (S (G (R q 1 c j fun a c=>?_)))));have d:=d.pick [1,0,2,3] (by decide) j;obtain ⟨a0,g2,g⟩:=bd g
    refine M 1 cl_81 d c j j (fun h=>hs_ref06_P_Expr g2 h (i.m (((l.t m).t o).t bj))) j ?_;rintro a w _ hv _ ⟨ia,rfl,rfl,f6⟩ b2 d c
    obtain ⟨dh,dz,dj,d0,rfl,fi,fj⟩:=TExpr.inv.1 f6
    refine A d c j z_75 j j fun a w h2 c d=>W q 0 d c j j j j j j j j j j fun a w c d=>E (T (S (G (R q 1 c j fun a c=>?_))))
    have d:=d.pick [1,0,2,3,4] (by decide) j;obtain ⟨ik,g3,g⟩:=bd g
    refine M 1 cl_64 d c j j (fun h=>(ref06_P_must.ok k) g3 h (i.m ((((l.t m).t o).t bj).t b2))) j ?_;rintro a w _ hw _ ⟨rfl,rfl⟩ bi d c
    refine E (T (S (Mx [1,3] [7,9] (.step 0 0 (.step 1 1 (.step 2 1 (.step 3 0 (.step 4 2 (.step 5 0 (.step 6 2 (.step 7 3 (.step 8 0 (.step 9 3 .nil)))))))))) mixed (by kernel_rfl) d (by decide) j fun w d hS=>H q 1 c j fun a c=>Dd hS c j j (Rw fun _=>(B q 1 j j j j)) j fun a c=>Dd hS c j j (Rw fun _=>(B q 0 j j j j)) j fun a c=>H q 1 c j fun a c=>Df j ?_)))
    obtain ⟨cj,g4,g⟩:=bd g;refine M 1 cl_63 d c j j (fun h=>(ref06_P_name.ok k) g4 h (i.m (((((l.t m).t o).t bj).t b2).t bi))) j ?_
    rintro a w _ eq _ ⟨rfl,rfl⟩ ba d c
    refine De (d.sw [1,3] (by decide) j ba) fun hS=>Dr c j j (Bd q j z_143 j j) j fun a c=>Df j (Bs ai_123 d c j j j j j fun a w h3 c d=>?_)
    have d4:RL eq 7 ([(TItem.mk a0.1 cj.1)].map TItem.d) _:=(Rc ((TItem.inv (x:=(TItem.mk a0.1 cj.1))).2 ⟨dh,dz,dj,d0,j,(fi.m (bi.t ba)),(fj.m (bi.t ba))⟩) j Rn)
    refine De (d.sw [2,4] (by decide) j ba) fun hS=>Dl j ?_;obtain ⟨_,gk,g⟩:=bd g
    refine Ao (f:=TItem.d) (xs:=ad.1) (ys:=[(TItem.mk a0.1 cj.1)]) ai_123 3 0 d c j j j d4 j j (Ll gk) j fun a w ee ew c d=>?_
    have f7:=Ra (d5.m ((b2.t bi).t ba)) d4
    refine Dn (H q 1 c j fun a c=>Dl j (W q 4 d c j j j j j j j j j j fun a w c d=>Dn (Dz (T (G (R q 1 c j fun a c=>?_))))))
    have d:=d.pick [1,0,2,3,4,5] (by decide) j;obtain ⟨il,g5,g⟩:=bd g
    refine M 1 cl_61 d c j j (fun h=>(ref06_P_take.ok k) g5 h (i.m ((((((l.t m).t o).t bj).t b2).t bi).t ba))) j ?_
    rintro a w _ er _ ⟨rfl,rfl⟩ ea d c;refine R q 1 c j fun a c=>E (xB (T ?_));cases g
    exact ⟨c6,Nat.lt_succ_self _,_,er,ee,ew,(br ++ [i_ a0.1.Kind,i_ a0.1.N,.string a0.1.S,.string a0.1.T,.slice dh a0.1.Kids.length dz,.slice dj a0.1.Q.length d0,.string cj.1]),a7,((((bj.t b2).t bi).t ba).t ea),c.kp j,(d.pick [3,0,4,5] (by decide) j),(f7.m ea)⟩
  rintro a w ⟨p,b8,af,ag,cr,rfl,s,c,d,f9⟩;have g:=Lg ft;refine T (S (S (G (R q 1 c j fun a c=>?_))));have d:=d.pick [1,0,2,3] (by decide) j
  obtain ⟨hh,g7,g⟩:=bd g;refine M 1 cl_61 d c j j (fun h=>(ref06_P_take.ok k) g7 h (i.m (((l.t m).t o).t s))) j ?_;rintro a w _ cm _ ⟨rfl,rfl⟩ t d c
  refine E (T ?_);have d:=d.nilrow 148 7;have ga:RL cm 7 (([]:List TFrom).map TFrom.d) []:=Rn;obtain ⟨u,g,gc⟩:=bd g
  refine X c d (fun e L a' w'=>∃ b9 aj ak cs,cm.le b9∧Env a' 87 (sl e [0,2,4] [])∧Inv ay ar aq b9 [.row (.slice aj u.1.length ak) 148 7 u.1.length cs,.blk au [.slice ao ai.T.length aw,i_ u.2.1,i_ u.2.2.1,i_ u.2.2.2.1,i_ u.2.2.2.2] 105,nt L 2,.blk av [i_ (1:Int),.bool an.1,.slice af p.1.length ag,.slice aj u.1.length ak,.slice none 0 0,.slice none 0 0,.slice none 0 0,.slice none 0 0,i_ (-1:Int),.slice none 0 0] 127,nt L 4] w'∧RL b9 7 (u.1.map TFrom.d) cs) ?_ ?_
  · refine Cc (b:=hh.1) c j (fun c2=>?_) (fun c2=>?_);rotate_left
    · replace g:=cf c2 g;refine K (T ?_);cases g;exact ⟨cm,none,0,[],rf,c.kp j,d,ga⟩
    replace g:=ct c2 g;refine G (R q 1 c j fun a c=>?_);have d:=d.pick [1,0,2,3,4] (by decide) j;obtain ⟨a5,g1,g⟩:=bd g
    refine M 1 cl_99 d c j j (fun h=>hs_ref06_P_src g1 h (i.m ((((l.t m).t o).t s).t t))) j ?_;rintro a w _ dn _ ⟨h9,rfl,rfl,f4⟩ go d c
    obtain ⟨de,dw,df,dx,dg,dy,rfl,ff,fg,fh⟩:=TFrom.inv.1 f4;refine Bs ai_124 d c j j j j j fun a w eu c d=>?_
    have f5:RL dn 7 ([a5.1].map TFrom.d) _:=(Rc (TFrom.inv.2 ⟨de,dw,df,dx,dg,dy,j,ff,fg,fh⟩) j Rn)
    refine R q 1 c j fun a c=>W q 4 d c j j j j j j j j j j fun a w c d=>E (T ?_);cases g
    exact ⟨dn,(p_ eu),1,[i_ a5.1.Kind,.string a5.1.Table,.bool a5.1.Visible,.string a5.1.As,.slice de a5.1.Q.length dw,.slice df a5.1.Kids.length dx,.slice dg a5.1.On.length dy],go,c.kp j,(d.pick [0,1,3,4,5] (by decide) j),f5⟩
  rintro a w ⟨b9,aj,ak,cs,v,c,d,gb⟩;have g:=gc;refine T (S (S (G (R q 1 c j fun a c=>?_))));have d:=d.pick [1,0,2,3,4] (by decide) j
  obtain ⟨hi,g8,g⟩:=bd g;refine M 1 cl_61 d c j j (fun h=>(ref06_P_take.ok k) g8 h (i.m (((((l.t m).t o).t s).t t).t v))) j ?_
  rintro a w _ cn _ ⟨rfl,rfl⟩ y d c;refine E (T ?_);have d:=d.nilrow 75 6;have gd:RL cn 6 (([]:List TExpr).map TExpr.d) []:=Rn;obtain ⟨z,g,gf⟩:=bd g
  refine X c d (fun e L a' w'=>∃ ca ap ax cu,cn.le ca∧Env a' 87 (sl e [0,2,4] [])∧Inv ay ar aq ca [.row (.slice ap z.1.length ax) 75 6 z.1.length cu,.blk au [.slice ao ai.T.length aw,i_ z.2.1,i_ z.2.2.1,i_ z.2.2.2.1,i_ z.2.2.2.2] 105,nt L 2,nt L 3,.blk av [i_ (1:Int),.bool an.1,.slice af p.1.length ag,.slice aj u.1.length ak,.slice ap z.1.length ax,.slice none 0 0,.slice none 0 0,.slice none 0 0,i_ (-1:Int),.slice none 0 0] 127,nt L 5] w'∧RL ca 6 (z.1.map TExpr.d) cu) ?_ ?_
  · refine Cc (b:=hi.1) c j (fun c1=>?_) (fun c1=>?_);rotate_left
    · replace g:=cf c1 g;refine K (T ?_);cases g;exact ⟨cn,none,0,[],rf,c.kp j,d,gd⟩
    replace g:=ct c1 g;refine G (R q 1 c j fun a c=>?_);have d:=d.pick [1,0,2,3,4,5] (by decide) j;obtain ⟨be,g0,g⟩:=bd g
    refine M 1 cl_81 d c j j (fun h=>hs_ref06_P_Expr g0 h (i.m ((((((l.t m).t o).t s).t t).t v).t y))) j ?_
    rintro a w _ dm _ ⟨h8,rfl,rfl,f2⟩ gn d c;obtain ⟨dc,du,dd,dv,rfl,fd,fe⟩:=TExpr.inv.1 f2;refine Bs ai_49 d c j j j j j fun a w et c d=>?_
    have f3:RL dm 6 ([be.1].map TExpr.d) _:=(Rc (TExpr.inv.2 ⟨dc,du,dd,dv,j,fd,fe⟩) j Rn)
    refine R q 1 c j fun a c=>W q 5 d c j j j j j j j j j j fun a w c d=>E (T ?_);cases g
    exact ⟨dm,(p_ et),1,[i_ be.1.Kind,i_ be.1.N,.string be.1.S,.string be.1.T,.slice dc be.1.Kids.length du,.slice dd be.1.Q.length dv],gn,c.kp j,(d.pick [0,1,3,4,5,6] (by decide) j),f3⟩
  rintro a w ⟨ca,ap,ax,cu,aa,c,d,ge⟩;have g:=gf;refine T (S (S (G (R q 1 c j fun a c=>?_))));have d:=d.pick [1,0,2,3,4,5] (by decide) j
  obtain ⟨hj,g9,g⟩:=bd g
  refine M 1 cl_61 d c j j (fun h=>(ref06_P_take.ok k) g9 h (i.m (((((((l.t m).t o).t s).t t).t v).t y).t aa))) j ?_
  rintro a w _ co _ ⟨rfl,rfl⟩ ab d c;refine E (T ?_);have d:=d.nilrow 75 6;have d6:RL co 6 (([]:List TExpr).map TExpr.d) []:=Rn;obtain ⟨n,g,gi⟩:=bd g
  refine X c d (fun e L a' w'=>∃ bo a1 a3 cv a2 a4,co.le bo∧Env a' 87 (sl e [0,2,4] [])∧Inv ay ar aq bo [.row (.slice a1 n.1.length a3) 75 6 n.1.length cv,.blk au [.slice ao ai.T.length aw,i_ n.2.1,i_ n.2.2.1,i_ n.2.2.2.1,i_ n.2.2.2.2.1] 105,nt L 2,nt L 3,nt L 4,.blk av [i_ (1:Int),.bool an.1,.slice af p.1.length ag,.slice aj u.1.length ak,.slice ap z.1.length ax,.slice a2 n.2.2.2.2.2.length a4,.slice a1 n.1.length a3,.slice none 0 0,i_ (-1:Int),.slice none 0 0] 127,nt L 6] w'∧RL bo 6 (n.1.map TExpr.d) cv∧Sl bo a2 a4 6 (n.2.2.2.2.2.map TExpr.d)) ?_ ?_
  · refine Cc (b:=hj.1) c j (fun c0=>?_) (fun c0=>?_);rotate_left
    · replace g:=cf c0 g;refine K (T ?_);cases g;exact ⟨co,none,0,[],none,0,rf,c.kp j,d,d6,(Sn _ _ _ _ (Nat.zero_le _))⟩
    replace g:=ct c0 g;refine S (G (R q 1 c j fun a c=>?_));have d:=d.pick [1,0,2,3,4,5,6] (by decide) j;obtain ⟨ii,gw,g⟩:=bd g
    refine M 1 cl_64 d c j j (fun h=>(ref06_P_must.ok k) gw h (i.m ((((((((l.t m).t o).t s).t t).t v).t y).t aa).t ab))) j ?_
    rintro a w _ ht _ ⟨rfl,rfl⟩ bg d c;refine E (T (S (G (R q 1 c j fun a c=>?_))));obtain ⟨ij,gx,g⟩:=bd g
    refine M 1 cl_100 d c j j (fun h=>hs_ref06_P_exprs gx h (i.m (((((((((l.t m).t o).t s).t t).t v).t y).t aa).t ab).t bg))) j ?_
    rintro a w _ hu _ ⟨c9,dr,rfl,rfl,d1⟩ b1 d c
    refine R q 1 c j fun a c=>W q 5 d c j j j j j j j j j j fun a w c d=>E (T (S (G (R q 1 c j fun a c=>?_))));obtain ⟨hg,gy,g⟩:=bd g
    refine M 1 cl_61 d c j j (fun h=>(ref06_P_take.ok k) gy h (i.m ((((((((((l.t m).t o).t s).t t).t v).t y).t aa).t ab).t bg).t b1))) j ?_
    rintro a w _ ep _ ⟨rfl,rfl⟩ bh d c;refine E (T (Cc (b:=hg.1) c j (fun cz=>?_) (fun cz=>?_)));rotate_left
    · replace g:=cf cz g;refine K (T ?_);cases g
      exact ⟨ep,none,0,[],c9,dr,((bg.t b1).t bh),c.kp j,(d.pick [1,0,2,3,4,5,6] (by decide) j),(d6.m ((bg.t b1).t bh)),(d1.m bh)⟩
    replace g:=ct cz g;refine G (R q 1 c j fun a c=>?_);obtain ⟨bc,gz,g⟩:=bd g
    refine M 1 cl_81 d c j j (fun h=>hs_ref06_P_Expr gz h (i.m (((((((((((l.t m).t o).t s).t t).t v).t y).t aa).t ab).t bg).t b1).t bh))) j ?_
    rintro a w _ dl _ ⟨h7,rfl,rfl,f0⟩ d9 d c;obtain ⟨da,ds,db,dt,rfl,fb,fc⟩:=TExpr.inv.1 f0;refine Bs ai_49 d c j j j j j fun a w es c d=>?_
    have f1:RL dl 6 ([bc.1].map TExpr.d) _:=(Rc (TExpr.inv.2 ⟨da,ds,db,dt,j,fb,fc⟩) j Rn)
    refine R q 1 c j fun a c=>W q 6 d c j j j j j j j j j j fun a w c d=>E (T ?_);cases g
    exact ⟨dl,(p_ es),1,[i_ bc.1.Kind,i_ bc.1.N,.string bc.1.S,.string bc.1.T,.slice da bc.1.Kids.length ds,.slice db bc.1.Q.length dt],c9,dr,(((bg.t b1).t bh).t d9),c.kp j,(d.pick [0,1,3,4,5,6,7] (by decide) j),f1,(d1.m (bh.t d9))⟩
  rintro a w ⟨bo,a1,a3,cv,a2,a4,al,c,d,gh,fr⟩;have g:=gi;refine T (S (S (G (R q 1 c j fun a c=>?_))))
  have d:=d.pick [1,0,2,3,4,5,6] (by decide) j;obtain ⟨hk,hb,g⟩:=bd g
  refine M 1 cl_61 d c j j (fun h=>(ref06_P_take.ok k) hb h (i.m (((((((((l.t m).t o).t s).t t).t v).t y).t aa).t ab).t al))) j ?_
  rintro a w _ cp _ ⟨rfl,rfl⟩ ah d c;refine E (T ?_);have d:=d.nilrow 145 7;have d7:RL cp 7 (([]:List TKey).map TKey.d) []:=Rn;obtain ⟨ae,g,fv⟩:=bd g
  refine X c d (fun e L a' w'=>∃ b7 bk bp cq,cp.le b7∧Env a' 87 (sl e [0,2,4] [])∧Inv ay ar aq b7 [.row (.slice bk ae.1.length bp) 145 7 ae.1.length cq,.blk au [.slice ao ai.T.length aw,i_ ae.2.1,i_ ae.2.2.1,i_ ae.2.2.2.1,i_ ae.2.2.2.2] 105,nt L 2,nt L 3,nt L 4,nt L 5,.blk av [i_ (1:Int),.bool an.1,.slice af p.1.length ag,.slice aj u.1.length ak,.slice ap z.1.length ax,.slice a2 n.2.2.2.2.2.length a4,.slice a1 n.1.length a3,.slice bk ae.1.length bp,i_ (-1:Int),.slice none 0 0] 127,nt L 7] w'∧RL b7 7 (ae.1.map TKey.d) cq) ?_ ?_
  rotate_left
  · rintro a w ⟨b7,bk,bp,cq,a8,c,d,fu⟩;have g:=fv;refine T (S (S (G (R q 1 c j fun a c=>?_))));have d:=d.pick [1,0,2,3,4,5,6,7] (by decide) j
    obtain ⟨hf,gq,g⟩:=bd g
    refine M 1 cl_61 d c j j (fun h=>(ref06_P_take.ok k) gq h (i.m (((((((((((l.t m).t o).t s).t t).t v).t y).t aa).t ab).t al).t ah).t a8))) j ?_
    rintro a w _ dk _ ⟨rfl,rfl⟩ a9 d c;refine E (T ?_);obtain ⟨b3,g,fw⟩:=bd g
    refine X c d (fun e L a' w'=>∃ ck,dk.le ck∧Env a' 87 (sl e [2,4] [])∧Inv ay ar aq ck [.blk au [.slice ao ai.T.length aw,i_ b3.1,i_ ae.2.2.1,i_ b3.2.1,i_ b3.2.2.1] 105,nt L 1,nt L 2,nt L 3,nt L 4,nt L 5,.blk av [i_ (1:Int),.bool an.1,.slice af p.1.length ag,.slice aj u.1.length ak,.slice ap z.1.length ax,.slice a2 n.2.2.2.2.2.length a4,.slice a1 n.1.length a3,.slice bk ae.1.length bp,i_ b3.2.2.2,.slice none 0 0] 127,nt L 7] w') ?_ ?_
    · refine Cc (b:=hf.1) c j (fun cw=>?_) (fun cw=>?_);rotate_left
      · replace g:=cf cw g;refine K (T ?_);cases g;exact ⟨dk,rf,c.kp j,d⟩
      replace g:=ct cw g;refine G (R q 1 c j fun a c=>?_);obtain ⟨ie,gr,g⟩:=bd g
      refine M 1 cl_67 d c j j (fun h=>(ref06_P_int.ok k) gr h (i.m ((((((((((((l.t m).t o).t s).t t).t v).t y).t aa).t ab).t al).t ah).t a8).t a9))) j ?_
      rintro a w _ em _ ⟨rfl,rfl⟩ gl d c;refine R q 1 c j fun a c=>W q 6 d c j j j j j j j j j j fun a w c d=>E (T ?_);cases g
      exact ⟨em,gl,c.kp j,d⟩
    rintro a w ⟨ck,bf,c,d⟩;have g:=fw
    refine T (S (G (L d c j (B q 6 j j j j) j fun a c=>W q 7 d c j j j j j j j j j j fun a w c d=>E (T ?_))))
    obtain ⟨hn,bs,d,e4⟩:=(d.front 5).giveR (xs:=p.1.map TItem.d) (by simp) (f9.m (((((((((t.t v).t y).t aa).t ab).t al).t ah).t a8).t a9).t bf))
    obtain ⟨ho,bt,d,e5⟩:=(d.front 4).giveR (xs:=u.1.map TFrom.d) (by simp) (gb.m ((((((((y.t aa).t ab).t al).t ah).t a8).t a9).t bf).t bs))
    obtain ⟨hp,bu,d,e6⟩:=(d.front 3).giveR (xs:=z.1.map TExpr.d) (by simp) (ge.m (((((((ab.t al).t ah).t a8).t a9).t bf).t bs).t bt))
    obtain ⟨hq,bv,d,e7⟩:=(d.front 2).giveR (xs:=n.1.map TExpr.d) (by simp) (gh.m ((((((ah.t a8).t a9).t bf).t bs).t bt).t bu))
    obtain ⟨hr,bw,d,e8⟩:=(d.front 1).giveR (xs:=ae.1.map TKey.d) (by simp) (fu.m (((((a9.t bf).t bs).t bt).t bu).t bv));refine V ?_;cases g
    refine U q c d (.cell 2 j j j j .nil) j ⟨_,_,_,j,(d.pick [0] (by decide) j),_,j,j,((TQuery.inv (x:=(TQuery.mk (1:Int) an.1 p.1 u.1 z.1 n.2.2.2.2.2 n.1 ae.1 b3.2.2.2 []))).2 ⟨af,ag,aj,ak,ap,ax,a2,a4,a1,a3,bk,bp,none,0,j,(e4.m (((bt.t bu).t bv).t bw)),(e5.m ((bu.t bv).t bw)),(e6.m (bv.t bw)),(fr.m ((((((((ah.t a8).t a9).t bf).t bs).t bt).t bu).t bv).t bw)),(e7.m bw),e8,(Sn _ _ _ _ (Nat.zero_le _))⟩)⟩
  refine Cc (b:=hk.1) c j (fun cy=>?_) (fun cy=>?_);rotate_left
  · replace g:=cf cy g;refine K (T ?_);cases g;exact ⟨cp,none,0,[],rf,c.kp j,d,d7⟩
  replace g:=ct cy g;refine S (G (R q 1 c j fun a c=>?_));have d:=d.pick [1,0,2,3,4,5,6,7] (by decide) j;obtain ⟨ig,gs,g⟩:=bd g
  refine M 1 cl_64 d c j j (fun h=>(ref06_P_must.ok k) gs h (i.m ((((((((((l.t m).t o).t s).t t).t v).t y).t aa).t ab).t al).t ah))) j ?_
  rintro a w _ cl _ ⟨rfl,rfl⟩ bx d c;refine E (T (S (G (R q 1 c j fun a c=>E (T ?_)))));obtain ⟨eb,a6,fs⟩:=bd g
  refine X c d (fun e L a' w'=>∃ am bm b5 cd cg,eb = .go am∧cl.le bm∧Env a' 87 (sl e [0,2,4] [])∧Inv ay ar aq bm [.blk au [.slice ao ai.T.length aw,i_ am.2.2.1,i_ am.2.2.2.1,i_ am.2.2.2.2.1,i_ am.2.2.2.2.2] 105,.row (.slice b5 am.1.length cd) 145 7 am.1.length cg,nt L 2,nt L 3,nt L 4,nt L 5,.blk av [i_ (1:Int),.bool an.1,.slice af p.1.length ag,.slice aj u.1.length ak,.slice ap z.1.length ax,.slice a2 n.2.2.2.2.2.length a4,.slice a1 n.1.length a3,.slice b5 am.1.length cd,i_ (-1:Int),.slice none 0 0] 127,nt L 7] w'∧RL bm 7 (am.1.map TKey.d) cg) ?_ ?_
  rotate_left
  · rintro a w ⟨am,bm,b5,cd,cg,rfl,gm,c,d,fx⟩;have g:=Lg fs;refine T ?_;cases g
    exact ⟨bm,b5,cd,cg,(bx.t gm),c.kp j,(d.pick [1,0,2,3,4,5,6,7] (by decide) j),fx⟩
  
  refine O (Q c d (fun e L n' a' w'=>∃ ac bl b4 cc bq,whileL (ref06_P_part.b0 k s_ref06_P_Expr s_ref06_P_and s_ref06_P_not s_ref06_P_cmp s_ref06_P_sum s_ref06_P_Query s_ref06_P_prod s_ref06_P_part s_ref06_P_unary s_ref06_P_src s_ref06_P_exprs s_ref06_P_prim s_ref06_P_one ai) n' ac=some eb∧cl.le bl∧Env a' 87 (sl e [0,2,4] [(5,.bool ac.2.1)])∧Inv ay ar aq bl [.blk au [.slice ao ai.T.length aw,i_ ac.2.2.1,i_ ac.2.2.2.1,i_ ac.2.2.2.2.1,i_ ac.2.2.2.2.2] 105,.row (.slice b4 ac.1.length cc) 145 7 ac.1.length bq,nt L 2,nt L 3,nt L 4,nt L 5,.blk av [i_ (1:Int),.bool an.1,.slice af p.1.length ag,.slice aj u.1.length ak,.slice ap z.1.length ax,.slice a2 n.2.2.2.2.2.length a4,.slice a1 n.1.length a3,.slice b4 ac.1.length cc,i_ (-1:Int),.slice none 0 0] 127,nt L 7] w'∧RL bl 7 (ac.1.map TKey.d) bq) _ ⟨_,cl,none,0,[],a6,rf,c.kp j,d,(d7.m bx)⟩ ?_)
  rintro c5 a w ⟨ac,bl,b4,cc,bq,a6,bz,c,d,d2⟩;rcases c5 with _ | c5
  · cases a6
  obtain ⟨ic,g,a6⟩:=Wh a6;unfold ref06_P_part.b0 at g
  refine S (S (G (R q 1 c j fun a c=>E (T (Cc (b:=ac.2.1) c j (fun cx=>?_) (fun cx=>?_))))));rotate_left
  · replace g:=cf cx g;refine Ex (Xe (Xe (Xh (T ?_))));cases g;obtain rfl:=Wb a6;exact ⟨_,bl,b4,cc,bq,j,bz,c.kp j,d,d2⟩
  replace g:=ct cx g;refine K (T (O (S (G (R q 1 c j fun a c=>?_)))));obtain ⟨az,gt,g⟩:=bd g
  refine M 1 cl_81 d c j j (fun h=>hs_ref06_P_Expr gt h (i.m ((((((((((((l.t m).t o).t s).t t).t v).t y).t aa).t ab).t al).t ah).t bx).t bz))) j ?_
  rintro a w _ hs _ ⟨h6,rfl,rfl,fy⟩ ch d c;obtain ⟨c7,dp,c8,dq,rfl,e9,fa⟩:=TExpr.inv.1 fy
  refine L d c j (Bd q j z_145 j j) j fun a c=>A d c j z_145 j j fun a w h0 c d=>W q 0 d c j j j j j j j j j j fun a w c d=>E (T (S (G (R q 1 c j fun a c=>?_))))
  have d:=d.pick [1,0,2,3,4,5,6,7,8] (by decide) j;obtain ⟨ci,gu,g⟩:=bd g
  refine M 1 cl_61 d c j j (fun h=>(ref06_P_take.ok k) gu h (i.m (((((((((((((l.t m).t o).t s).t t).t v).t y).t aa).t ab).t al).t ah).t bx).t bz).t ch))) j ?_
  rintro a w _ en _ ⟨rfl,rfl⟩ b0 d c
  refine R q 1 c j fun a c=>W q 1 d c j j j j j j j j j j fun a w c d=>E (T (S (G (R q 1 c j fun a c=>L d c j (B q 7 j j j j) j fun a c=>L d c j (B q 1 j j j j) j fun a c=>Bs ai_125 d c j j j j j fun a w h1 c d=>?_))))
  have d3:RL en 7 ([(TKey.mk az.1 ci.1)].map TKey.d) _:=(Rc ((TKey.inv (x:=(TKey.mk az.1 ci.1))).2 ⟨c7,dp,c8,dq,j,(e9.m b0),(fa.m b0)⟩) j Rn)
  obtain ⟨_,gj,g⟩:=bd g;refine Ao (f:=TKey.d) (xs:=ac.1) (ys:=[(TKey.mk az.1 ci.1)]) ai_125 3 0 d c j j j d3 j j (Ll gj) j fun a w ed ev c d=>?_
  have fz:=Ra (d2.m (ch.t b0)) d3
  refine R q 1 c j fun a c=>W q 8 d c j j j j j j j j j j fun a w c d=>E (T (G (R q 1 c j fun a c=>?_)))
  have d:=d.pick [1,0,2,3,4,5,6,7,8,9] (by decide) j;obtain ⟨ih,gv,g⟩:=bd g
  refine M 1 cl_61 d c j j (fun h=>(ref06_P_take.ok k) gv h (i.m ((((((((((((((l.t m).t o).t s).t t).t v).t y).t aa).t ab).t al).t ah).t bx).t bz).t ch).t b0))) j ?_
  rintro a w _ eo _ ⟨rfl,rfl⟩ d8 d c;refine R q 1 c j fun a c=>E (xB (T ?_));cases g
  exact ⟨c5,Nat.lt_succ_self _,_,eo,ed,ev,(bq ++ [i_ az.1.Kind,i_ az.1.N,.string az.1.S,.string az.1.T,.slice c7 az.1.Kids.length dp,.slice c8 az.1.Q.length dq,.bool ci.1]),a6,(((bz.t ch).t b0).t d8),c.kp j,(d.pick [0,3,4,5,6,7,8,9] (by decide) j),(fz.m d8)⟩

theorem ref06_P_unary.F_ok (k:Nat) (s_ref06_P_Expr:Tref06_P→Option (TExpr × Tref06_P)) (s_ref06_P_and:Tref06_P→Option (TExpr × Tref06_P)) (s_ref06_P_not:Tref06_P→Option (TExpr × Tref06_P)) (s_ref06_P_cmp:Tref06_P→Option (TExpr × Tref06_P)) (s_ref06_P_sum:Tref06_P→Option (TExpr × Tref06_P)) (s_ref06_P_Query:Tref06_P→Option (TQuery × Tref06_P)) (s_ref06_P_prod:Tref06_P→Option (TExpr × Tref06_P)) (s_ref06_P_part:Tref06_P→Option (TQuery × Tref06_P)) (s_ref06_P_unary:Tref06_P→Option (TExpr × Tref06_P)) (s_ref06_P_src:Tref06_P→Option (TFrom × Tref06_P)) (s_ref06_P_exprs:Tref06_P→Option ((List TExpr) × Tref06_P)) (s_ref06_P_prim:Tref06_P→Option (TExpr × Tref06_P)) (s_ref06_P_one:Tref06_P→Option (TFrom × Tref06_P)) (hs_ref06_P_Expr:ref06_P_Expr.C s_ref06_P_Expr) (hs_ref06_P_and:ref06_P_and.C s_ref06_P_and) (hs_ref06_P_not:ref06_P_not.C s_ref06_P_not) (hs_ref06_P_cmp:ref06_P_cmp.C s_ref06_P_cmp) (hs_ref06_P_sum:ref06_P_sum.C s_ref06_P_sum) (hs_ref06_P_Query:ref06_P_Query.C s_ref06_P_Query) (hs_ref06_P_prod:ref06_P_prod.C s_ref06_P_prod) (hs_ref06_P_part:ref06_P_part.C s_ref06_P_part) (hs_ref06_P_unary:ref06_P_unary.C s_ref06_P_unary) (hs_ref06_P_src:ref06_P_src.C s_ref06_P_src) (hs_ref06_P_exprs:ref06_P_exprs.C s_ref06_P_exprs) (hs_ref06_P_prim:ref06_P_prim.C s_ref06_P_prim) (hs_ref06_P_one:ref06_P_one.C s_ref06_P_one):ref06_P_unary.C (ref06_P_unary.F k s_ref06_P_Expr s_ref06_P_and s_ref06_P_not s_ref06_P_cmp s_ref06_P_sum s_ref06_P_Query s_ref06_P_prod s_ref06_P_part s_ref06_P_unary s_ref06_P_src s_ref06_P_exprs s_ref06_P_prim s_ref06_P_one):=by
  intro a7 r f a8 ah ag ai af an d o
  unfold ref06_P_unary.F at f
  refine Ci 28 Tryz.func98 j j j fun a c=>?_
  refine S (G (A d c j z_75 j j fun a w bf c d=>E (T (S (S (G (R q 1 c j fun a c=>?_)))))));have d:=d.pick [1,0] (by decide) j;obtain ⟨ba,a5,f⟩:=bd f
  refine M 1 cl_61 d c j j (fun h=>(ref06_P_take.ok k) a5 h o) j ?_;rintro a w _ bb _ ⟨rfl,rfl⟩ v d c;refine E (T (Cc (b:=ba.1) c j (fun u=>?_) (fun u=>?_)))
  rotate_left
  · replace f:=cf u f;refine K (T (S (G (R q 1 c j fun a c=>?_))));obtain ⟨bl,a3,f⟩:=bd f
    refine M 1 cl_101 d c j j (fun h=>hs_ref06_P_prim a3 h (o.m v)) j ?_;rintro a w _ bc _ ⟨bh,rfl,rfl,ax⟩ bi d c
    obtain ⟨ad,al,ae,am,rfl,aq,ar⟩:=TExpr.inv.1 ax;refine W q 1 d c j j j j j j j j j j fun a w c d=>E (T (V ?_));cases f
    refine U q c d (.cell 1 j j j j .nil) j ⟨_,_,_,j,(d.pick [0] (by decide) j),_,j,j,(TExpr.inv.2 ⟨ad,al,ae,am,j,aq,ar⟩)⟩
  replace f:=ct u f;refine S (G (R q 1 c j fun a c=>?_));obtain ⟨a9,a4,f⟩:=bd f;refine M 1 cl_88 d c j j (fun h=>(ref06_P_down.ok k) a4 h (o.m v)) j ?_
  rintro a w _ p _ ⟨rfl,rfl⟩ a1 d c
  refine E (T (S (G (L d c j (Bd q j z_75 j j) j fun a c=>A d c j z_75 j j fun a w ak c d=>W q 0 d c j j j j j j j j j j fun a w c d=>E (T (S (S (G (R q 3 c j fun a c=>L d c j (B q 1 j j j j) j fun a c=>R q 1 c j fun a c=>E (T ?_))))))))))
  have d:=d.nilrow 75 6;have ay:RL p 6 (([]:List TExpr).map TExpr.d) []:=Rn;obtain ⟨g,f,a0⟩:=bd f
  refine X c d (fun e L a' w'=>∃ m l n s,p.le m∧Env a' 28 (sl e [0,2,3] [])∧Inv a8 ah ag m [.row (.slice l g.1.length n) 75 6 g.1.length s,.blk ak [i_ g.2.1,i_ (0:Int),.string (⟨#[]⟩:ByteArray),.string (⟨#[]⟩:ByteArray),.slice l g.1.length n,.slice none 0 0] 75,.blk ai [.slice af a7.T.length an,i_ g.2.2.1,i_ g.2.2.2.1,i_ g.2.2.2.2.1,i_ g.2.2.2.2.2] 105,nt L 3] w'∧RL m 6 (g.1.map TExpr.d) s) ?_ ?_
  rotate_left
  · rintro a w ⟨m,l,n,s,bj,c,d,az⟩;have f:=a0
    refine T (S (G (R q 3 c j fun a c=>L d c j (B q 2 j j j j) j fun a c=>R q 3 c j fun a c=>W q 2 d c j j j j j j j j j j fun a w c d=>E (T (S (G (L d c j (B q 1 j j j j) j fun a c=>W q 3 d c j j j j j j j j j j fun a w c d=>E (T ?_))))))))
    obtain ⟨be,bk,d,au⟩:=(d.front 0).giveR (xs:=g.1.map TExpr.d) (by simp) az;refine V (Xr ?_);cases f
    refine U q c d (.cell 2 j j j j .nil) j ⟨_,_,_,j,(d.pick [1] (by decide) j),_,j,j,((TExpr.inv (x:=(TExpr.mk g.2.1 (0:Int) (⟨#[]⟩:ByteArray) (⟨#[]⟩:ByteArray) g.1 []))).2 ⟨l,n,none,0,j,au,(Sn _ _ _ _ (Nat.zero_le _))⟩)⟩
  refine Cc (b:=decide (a9.E=(0:Int))) c j (fun t=>?_) (fun t=>?_);rotate_left
  · replace f:=cf t f;refine K (T ?_);cases f;exact ⟨p,none,0,[],rf,c.kp j,d,ay⟩
  replace f:=ct t f;refine G (R q 1 c j fun a c=>?_);have d:=d.pick [2,0,1,3] (by decide) j;obtain ⟨i,a6,f⟩:=bd f
  refine M 1 cl_98 d c j j (fun h=>hs_ref06_P_unary a6 h (o.m (v.t a1))) j ?_;rintro a w _ aa _ ⟨bg,rfl,rfl,av⟩ a2 d c
  obtain ⟨y,ab,z,ac,rfl,ao,ap⟩:=TExpr.inv.1 av;refine Bs ai_49 d c j j j j j fun a w aj c d=>?_
  have aw:RL aa 6 ([i.1].map TExpr.d) _:=(Rc (TExpr.inv.2 ⟨y,ab,z,ac,j,ao,ap⟩) j Rn)
  refine L d c j (Bd q j z_75 j j) j fun a c=>W q 3 d c j j j j j j j j j j fun a w c d=>E (T ?_);cases f
  exact ⟨aa,(p_ aj),1,[i_ i.1.Kind,i_ i.1.N,.string i.1.S,.string i.1.T,.slice y i.1.Kids.length ab,.slice z i.1.Q.length ac],a2,c.kp j,(d.pick [0,3,1,4] (by decide) j),aw⟩

theorem ref06_P_src.F_ok (k:Nat) (s_ref06_P_Expr:Tref06_P→Option (TExpr × Tref06_P)) (s_ref06_P_and:Tref06_P→Option (TExpr × Tref06_P)) (s_ref06_P_not:Tref06_P→Option (TExpr × Tref06_P)) (s_ref06_P_cmp:Tref06_P→Option (TExpr × Tref06_P)) (s_ref06_P_sum:Tref06_P→Option (TExpr × Tref06_P)) (s_ref06_P_Query:Tref06_P→Option (TQuery × Tref06_P)) (s_ref06_P_prod:Tref06_P→Option (TExpr × Tref06_P)) (s_ref06_P_part:Tref06_P→Option (TQuery × Tref06_P)) (s_ref06_P_unary:Tref06_P→Option (TExpr × Tref06_P)) (s_ref06_P_src:Tref06_P→Option (TFrom × Tref06_P)) (s_ref06_P_exprs:Tref06_P→Option ((List TExpr) × Tref06_P)) (s_ref06_P_prim:Tref06_P→Option (TExpr × Tref06_P)) (s_ref06_P_one:Tref06_P→Option (TFrom × Tref06_P)) (hs_ref06_P_Expr:ref06_P_Expr.C s_ref06_P_Expr) (hs_ref06_P_and:ref06_P_and.C s_ref06_P_and) (hs_ref06_P_not:ref06_P_not.C s_ref06_P_not) (hs_ref06_P_cmp:ref06_P_cmp.C s_ref06_P_cmp) (hs_ref06_P_sum:ref06_P_sum.C s_ref06_P_sum) (hs_ref06_P_Query:ref06_P_Query.C s_ref06_P_Query) (hs_ref06_P_prod:ref06_P_prod.C s_ref06_P_prod) (hs_ref06_P_part:ref06_P_part.C s_ref06_P_part) (hs_ref06_P_unary:ref06_P_unary.C s_ref06_P_unary) (hs_ref06_P_src:ref06_P_src.C s_ref06_P_src) (hs_ref06_P_exprs:ref06_P_exprs.C s_ref06_P_exprs) (hs_ref06_P_prim:ref06_P_prim.C s_ref06_P_prim) (hs_ref06_P_one:ref06_P_one.C s_ref06_P_one):ref06_P_src.C (ref06_P_src.F k s_ref06_P_Expr s_ref06_P_and s_ref06_P_not s_ref06_P_cmp s_ref06_P_sum s_ref06_P_Query s_ref06_P_prod s_ref06_P_part s_ref06_P_unary s_ref06_P_src s_ref06_P_exprs s_ref06_P_prim s_ref06_P_one):=by
  intro ao r g a4 av au aw ar az d ab
  unfold ref06_P_src.F at g
  refine Ci 38 Tryz.func99 j j j fun a c=>?_
  refine S (G (A d c j z_148 j j fun a w d5 c d=>E (T (S (G (R q 1 c j fun a c=>?_))))));have d:=d.pick [1,0] (by decide) j;obtain ⟨eb,dr,g⟩:=bd g
  refine M 1 cl_102 d c j j (fun v=>hs_ref06_P_one dr v ab) j ?_;rintro a w _ bt _ ⟨d7,rfl,rfl,dh⟩ ac d c;obtain ⟨cl,cu,cm,cv,cn,cw,rfl,cy,cz,c0⟩:=TFrom.inv.1 dh
  refine A d c j z_148 j j fun a w bw c d=>W q 0 d c j j j j j j j j j j fun a w c d=>E (T (S ?_));obtain ⟨cj,ak,dg⟩:=bd g
  refine X c d (fun e L a' w'=>∃ i al a5 be a6 bf a7 bg,cj = .go i∧bt.le al∧Env a' 38 (sl e [2,3] [])∧Inv a4 av au al [.blk bw [i_ i.1,.string i.2.1,.bool i.2.2.1,.string i.2.2.2.1,.slice a5 i.2.2.2.2.1.length be,.slice a6 i.2.2.2.2.2.1.length bf,.slice a7 i.2.2.2.2.2.2.1.length bg] 148,.blk aw [.slice ar ao.T.length az,i_ i.2.2.2.2.2.2.2.1,i_ i.2.2.2.2.2.2.2.2.1,i_ i.2.2.2.2.2.2.2.2.2.1,i_ i.2.2.2.2.2.2.2.2.2.2] 105,nt L 2] w'∧Sl al a5 be 10 (i.2.2.2.2.1.map TQuery.d)∧Sl al a6 bf 7 (i.2.2.2.2.2.1.map TFrom.d)∧Sl al a7 bg 6 (i.2.2.2.2.2.2.1.map TExpr.d)) ?_ ?_
  rotate_left
  · rintro a w ⟨i,al,a5,be,a6,bf,a7,bg,rfl,d9,c,d,c1,c2,c3⟩;have g:=Lg dg
    refine T (S (G (L d c j (B q 0 j j j j) j fun a c=>W q 2 d c j j j j j j j j j j fun a w c d=>E (T (V ?_)))));cases g
    refine U q c d (.cell 2 j j j j .nil) j ⟨_,_,_,j,(d.pick [1] (by decide) j),_,j,j,((TFrom.inv (x:=(TFrom.mk i.1 i.2.1 i.2.2.1 i.2.2.2.1 i.2.2.2.2.1 i.2.2.2.2.2.1 i.2.2.2.2.2.2.1))).2 ⟨a5,be,a6,bf,a7,bg,j,c1,c2,c3⟩)⟩
  
  refine O (Q c d (fun e L n' a' w'=>∃ f z ae ah af ai ag aj,whileL (ref06_P_src.b0 k s_ref06_P_Expr s_ref06_P_and s_ref06_P_not s_ref06_P_cmp s_ref06_P_sum s_ref06_P_Query s_ref06_P_prod s_ref06_P_part s_ref06_P_unary s_ref06_P_src s_ref06_P_exprs s_ref06_P_prim s_ref06_P_one ao) n' f=some cj∧bt.le z∧Env a' 38 (sl e [0,2,3] [])∧Inv a4 av au z [.blk bw [i_ f.1,.string f.2.1,.bool f.2.2.1,.string f.2.2.2.1,.slice ae f.2.2.2.2.1.length ah,.slice af f.2.2.2.2.2.1.length ai,.slice ag f.2.2.2.2.2.2.1.length aj] 148,.blk aw [.slice ar ao.T.length az,i_ f.2.2.2.2.2.2.2.1,i_ f.2.2.2.2.2.2.2.2.1,i_ f.2.2.2.2.2.2.2.2.2.1,i_ f.2.2.2.2.2.2.2.2.2.2] 105,nt L 2] w'∧Sl z ae ah 10 (f.2.2.2.2.1.map TQuery.d)∧Sl z af ai 7 (f.2.2.2.2.2.1.map TFrom.d)∧Sl z ag aj 6 (f.2.2.2.2.2.2.1.map TExpr.d)) _ ⟨_,bt,cl,cu,cm,cv,cn,cw,ak,rf,c.kp j,d,cy,cz,c0⟩ ?_)
  rintro b7 a w ⟨f,z,ae,ah,af,ai,ag,aj,ak,aa,c,d,bl,bm,bn⟩;rcases b7 with _ | b7
  · cases ak
  obtain ⟨ea,g,ak⟩:=Wh ak;unfold ref06_P_src.b0 at g;refine S (S ?_);obtain ⟨ch,g,dj⟩:=bd g
  refine X c d (fun e L a' w'=>∃ bc,z.le bc∧Env a' 38 (sl e [0,2,3] [(20,.bool ch)])∧Inv a4 av au bc L w') ?_ ?_
  · refine G (R q 3 c j fun a c=>L d c j (B q 1 j j j j) j fun a c=>R q 2 c j fun a c=>?_)
    rcases Bo (decide (f.2.2.2.2.2.2.2.2.2.2=(0:Int))) with a2 | a2;rotate_left
    · replace g:=cf a2 g;have c:=c.tr (t:=13) j a2;refine R q 7 c j fun a c=>E (T ?_);cases g;exact ⟨z,rf,c.kp j,d⟩
    replace g:=ct a2 g;have c:=c.tr (t:=13) j a2;refine R q 1 c j fun a c=>?_;obtain ⟨ck,dw,g⟩:=bd g
    refine Cl (S:=fun _ L' u=>L'=[]∧u = .bool ck) cl_65 d c j j (by obtain ⟨cr,dp,d,de⟩:=(d.front 1).giveB;have dc:Pt cr (p_ aw) 105 Tref06_P.d (some (Tref06_P.mk ao.T f.2.2.2.2.2.2.2.1 f.2.2.2.2.2.2.2.2.1 f.2.2.2.2.2.2.2.2.2.1 f.2.2.2.2.2.2.2.2.2.2)):=Pm (Tref06_P.inv.2 ⟨ar,az,j,(ab.m ((ac.t aa).t dp))⟩) de;exact ⟨_,(ref06_P_is.ok k) dw d.pass0 dc⟩) (fun _ _ _ h=>h.2) j ?_
    intro a w d c;refine R q 1 c j fun a c=>?_;rcases Bo ck with a3 | a3
    · replace g:=ct a3 g;have c:=c.tr (t:=16) j a3;refine R q 4 c j fun a c=>E (T ?_);cases g;exact ⟨z,rf,c.kp j,d⟩
    replace g:=cf a3 g;have c:=c.tr (t:=16) j a3;refine R q 1 c j fun a c=>?_;obtain ⟨dz,dx,g⟩:=bd g
    refine Cl (S:=fun _ L' u=>L'=[]∧u = .bool dz) cl_65 d c j j (by obtain ⟨cs,dq,d,df⟩:=(d.front 1).giveB;have dd:Pt cs (p_ aw) 105 Tref06_P.d (some (Tref06_P.mk ao.T f.2.2.2.2.2.2.2.1 f.2.2.2.2.2.2.2.2.1 f.2.2.2.2.2.2.2.2.2.1 f.2.2.2.2.2.2.2.2.2.2)):=Pm (Tref06_P.inv.2 ⟨ar,az,j,(ab.m ((ac.t aa).t dq))⟩) df;exact ⟨_,(ref06_P_is.ok k) dx d.pass0 dd⟩) (fun _ _ _ h=>h.2) j ?_
    intro a w d c;refine R q 2 c j fun a c=>E (T ?_);cases g;exact ⟨z,rf,c.kp j,d⟩
  rintro a w ⟨bc,n,c,d⟩;have g:=dj;refine T (Cc (b:=ch) c j (fun b6=>?_) (fun b6=>?_));rotate_left
  · replace g:=cf b6 g;refine Ex (Xe (Xe (Xh (T ?_))));cases g;obtain rfl:=Wb ak
    exact ⟨_,bc,ae,ah,af,ai,ag,aj,j,(aa.t n),c.kp j,d,(bl.m n),(bm.m n),(bn.m n)⟩
  replace g:=ct b6 g;refine K (T (O (S (G (R q 1 c j fun a c=>E (T (S (S (G (R q 1 c j fun a c=>?_))))))))));have d:=d.pick [1,0,2] (by decide) j
  obtain ⟨dy,ds,g⟩:=bd g;refine M 1 cl_61 d c j j (fun v=>(ref06_P_take.ok k) ds v (ab.m ((ac.t aa).t n))) j ?_;rintro a w _ bu _ ⟨rfl,rfl⟩ o d c
  refine E (T ?_);obtain ⟨ci,g,dk⟩:=bd g;refine X c d (fun e L a' w'=>∃ bv,bu.le bv∧Env a' 38 (sl e [0,2,3] [(4,i_ ci)])∧Inv a4 av au bv L w') ?_ ?_
  · refine Cc (b:=dy.1) c j (fun b5=>?_) (fun b5=>?_);rotate_left
    · replace g:=cf b5 g;refine K (T ?_);cases g;exact ⟨bu,rf,c.kp j,d⟩
    replace g:=ct b5 g;refine G (R q 1 c j fun a c=>E (T ?_));cases g;exact ⟨bu,rf,c.kp j,d⟩
  rintro a w ⟨bv,p,c,d⟩;have g:=dk;refine T (S (G (R q 1 c j fun a c=>?_)));obtain ⟨ec,dt,g⟩:=bd g
  refine M 1 cl_64 d c j j (fun v=>(ref06_P_must.ok k) dt v (ab.m ((((ac.t aa).t n).t o).t p))) j ?_;rintro a w _ d0 _ ⟨rfl,rfl⟩ s d c
  refine E (T (S (G (R q 1 c j fun a c=>?_))));obtain ⟨ap,du,g⟩:=bd g
  refine M 1 cl_102 d c j j (fun v=>hs_ref06_P_one du v (ab.m (((((ac.t aa).t n).t o).t p).t s))) j ?_
  rintro a w _ d1 _ ⟨d8,rfl,rfl,dl⟩ y d c;obtain ⟨bq,bx,br,bz,bs,b0,rfl,b1,b2,b3⟩:=TFrom.inv.1 dl
  refine A d c j z_148 j j fun a w d6 c d=>W q 0 d c j j j j j j j j j j fun a w c d=>E (T (S (G (R q 1 c j fun a c=>?_))))
  have d:=d.pick [1,0,2,3] (by decide) j;obtain ⟨ed,dv,g⟩:=bd g
  refine M 1 cl_64 d c j j (fun v=>(ref06_P_must.ok k) dv v (ab.m ((((((ac.t aa).t n).t o).t p).t s).t y))) j ?_
  rintro a w _ b8 _ ⟨rfl,rfl⟩ m d c;refine E (T ?_);obtain ⟨ad,g,dm⟩:=bd g
  refine X c d (fun e L a' w'=>∃ am a8 bh a9 bi,b8.le am∧Env a' 38 (sl e [0,2,3] [])∧Inv a4 av au am [.blk aw [.slice ar ao.T.length az,i_ ad.1,i_ ad.2.1,i_ ad.2.2.1,i_ ad.2.2.2.1] 105,.blk bw [i_ ci,.string (⟨#[]⟩:ByteArray),.bool false,.string (⟨#[]⟩:ByteArray),.slice none 0 0,.slice a8 ad.2.2.2.2.1.length bh,.slice a9 ad.2.2.2.2.2.length bi] 148,nt L 3] w'∧Sl am a8 bh 7 (ad.2.2.2.2.1.map TFrom.d)∧Sl am a9 bi 6 (ad.2.2.2.2.2.map TExpr.d)) ?_ ?_
  rotate_left
  · rintro a w ⟨am,a8,bh,a9,bi,dn,c,d,c4,c5⟩;have g:=dm;refine xB (T ?_);cases g
    exact ⟨b7,Nat.lt_succ_self _,_,am,none,0,a8,bh,a9,bi,ak,(((((((aa.t n).t o).t p).t s).t y).t m).t dn),c.kp j,(d.pick [1,0,2] (by decide) j),(Sn _ _ _ _ (Nat.zero_le _)),c4,c5⟩
  obtain ⟨aq,cg,g⟩:=bd g
  refine Mx [1,2] [3,8] (.step 0 0 (.step 1 1 (.step 2 1 (.step 4 0 (.or 3 3 (.step 5 2 (.step 6 2 (.step 7 0 (.step 8 3 .nil)))) (.step 5 2 (.or 3 3 (.step 6 2 (.step 7 0 (.step 8 3 .nil))) (.step 6 2 (.step 3 3 (.step 7 0 (.step 8 3 .nil))))))))))) mixed (by kernel_rfl) d (by decide) j fun w d hS=>H q 1 c j fun a c=>Dd hS c j j (Rw fun _=>(B q 1 j j j j)) j fun a c=>Dd hS c j j (Rw fun _=>(B q 0 j j j j)) j fun a c=>H q 1 c j fun a c=>d_or j ?_ ?_
  · refine Bs ai_124 d c j j j j j fun a w ax c d=>?_
    have a0:RL b8 7 ([(TFrom.mk f.1 f.2.1 f.2.2.1 f.2.2.2.1 f.2.2.2.2.1 f.2.2.2.2.2.1 f.2.2.2.2.2.2.1),ap.1].map TFrom.d) _:=(Rc ((TFrom.inv (x:=(TFrom.mk f.1 f.2.1 f.2.2.1 f.2.2.2.1 f.2.2.2.2.1 f.2.2.2.2.2.1 f.2.2.2.2.2.2.1))).2 ⟨ae,ah,af,ai,ag,aj,j,(bl.m (((((n.t o).t p).t s).t y).t m)),(bm.m (((((n.t o).t p).t s).t y).t m)),(bn.m (((((n.t o).t p).t s).t y).t m))⟩) j (Rc (TFrom.inv.2 ⟨bq,bx,br,bz,bs,b0,j,(b1.m m),(b2.m m),(b3.m m)⟩) j Rn))
    refine d_nextlo (Df j ?_);have d:=d.pick [1,0,2,3,4] (by decide) j
    refine M 1 cl_81 d c j j (fun v=>hs_ref06_P_Expr cg v (ab.m (((((((ac.t aa).t n).t o).t p).t s).t y).t m))) j ?_
    rintro a w _ an _ ⟨cx,rfl,rfl,b4⟩ l d c;obtain ⟨ba,bj,bb,bk,rfl,bo,bp⟩:=TExpr.inv.1 b4
    refine De (d.sw [2,3] (by decide) j l) fun hS=>Df j (Bs ai_49 d c j j j j j fun a w ay c d=>?_)
    have a1:RL an 6 ([aq.1].map TExpr.d) _:=(Rc (TExpr.inv.2 ⟨ba,bj,bb,bk,j,bo,bp⟩) j Rn)
    refine De (d.sw [3,4] (by decide) j l) fun hS=>Dr c j j (Bd q j z_148 j j) j fun a c=>Dl j (W q 4 d c j j j j j j j j j j fun a w c d=>Dn (Dz (T ?_)))
    obtain ⟨d2,b9,d,c6⟩:=(d.front 0).giveR (xs:=([aq.1]).map TExpr.d) (by simp) a1
    obtain ⟨co,ca,d,c7⟩:=(d.front 1).giveR (xs:=([(TFrom.mk f.1 f.2.1 f.2.2.1 f.2.2.2.1 f.2.2.2.2.1 f.2.2.2.2.2.1 f.2.2.2.2.2.2.1),ap.1]).map TFrom.d) (by simp) (a0.m (l.t b9))
    cases g;exact ⟨co,(p_ ax),2,(p_ ay),1,((l.t b9).t ca),c.kp j,(d.pick [0,2,3] (by decide) j),c7,(c6.m ca)⟩
  refine Df j (M 1 cl_81 d c j j (fun v=>hs_ref06_P_Expr cg v (ab.m (((((((ac.t aa).t n).t o).t p).t s).t y).t m))) j ?_)
  rintro a w _ an _ ⟨cx,rfl,rfl,b4⟩ l d c;obtain ⟨ba,bj,bb,bk,rfl,bo,bp⟩:=TExpr.inv.1 b4;refine De (d.sw [1,2] (by decide) j l) fun hS=>d_or j ?_ ?_
  · refine Bs ai_124 d c j j j j j fun a w ax c d=>?_
    have a0:RL an 7 ([(TFrom.mk f.1 f.2.1 f.2.2.1 f.2.2.2.1 f.2.2.2.2.1 f.2.2.2.2.2.1 f.2.2.2.2.2.2.1),ap.1].map TFrom.d) _:=(Rc ((TFrom.inv (x:=(TFrom.mk f.1 f.2.1 f.2.2.1 f.2.2.2.1 f.2.2.2.2.1 f.2.2.2.2.2.1 f.2.2.2.2.2.2.1))).2 ⟨ae,ah,af,ai,ag,aj,j,(bl.m ((((((n.t o).t p).t s).t y).t m).t l)),(bm.m ((((((n.t o).t p).t s).t y).t m).t l)),(bn.m ((((((n.t o).t p).t s).t y).t m).t l))⟩) j (Rc (TFrom.inv.2 ⟨bq,bx,br,bz,bs,b0,j,(b1.m (m.t l)),(b2.m (m.t l)),(b3.m (m.t l))⟩) j Rn))
    refine d_nextlo (Df j (Bs ai_49 d c j j j j j fun a w ay c d=>?_));have a1:RL an 6 ([aq.1].map TExpr.d) _:=(Rc (TExpr.inv.2 ⟨ba,bj,bb,bk,j,bo,bp⟩) j Rn)
    refine De (d.sw [3,4] (by decide) j l) fun hS=>Dr c j j (Bd q j z_148 j j) j fun a c=>Dl j (W q 4 d c j j j j j j j j j j fun a w c d=>Dn (Dz (T ?_)))
    obtain ⟨d3,cb,d,c8⟩:=(d.front 0).giveR (xs:=([aq.1]).map TExpr.d) (by simp) a1
    obtain ⟨cp,cc,d,c9⟩:=(d.front 0).giveR (xs:=([(TFrom.mk f.1 f.2.1 f.2.2.1 f.2.2.2.1 f.2.2.2.2.1 f.2.2.2.2.2.1 f.2.2.2.2.2.2.1),ap.1]).map TFrom.d) (by simp) (a0.m cb)
    cases g;exact ⟨cp,(p_ ax),2,(p_ ay),1,((l.t cb).t cc),c.kp j,(d.pick [0,2,3] (by decide) j),c9,(c8.m cc)⟩
  refine Df j (Bs ai_49 d c j j j j j fun a w ay c d=>?_);have a1:RL an 6 ([aq.1].map TExpr.d) _:=(Rc (TExpr.inv.2 ⟨ba,bj,bb,bk,j,bo,bp⟩) j Rn)
  refine De (d.sw [2,3] (by decide) j l) fun hS=>Dl j (Bs ai_124 d c j j j j j fun a w ax c d=>?_)
  have a0:RL an 7 ([(TFrom.mk f.1 f.2.1 f.2.2.1 f.2.2.2.1 f.2.2.2.2.1 f.2.2.2.2.2.1 f.2.2.2.2.2.2.1),ap.1].map TFrom.d) _:=(Rc ((TFrom.inv (x:=(TFrom.mk f.1 f.2.1 f.2.2.1 f.2.2.2.1 f.2.2.2.2.1 f.2.2.2.2.2.1 f.2.2.2.2.2.2.1))).2 ⟨ae,ah,af,ai,ag,aj,j,(bl.m ((((((n.t o).t p).t s).t y).t m).t l)),(bm.m ((((((n.t o).t p).t s).t y).t m).t l)),(bn.m ((((((n.t o).t p).t s).t y).t m).t l))⟩) j (Rc (TFrom.inv.2 ⟨bq,bx,br,bz,bs,b0,j,(b1.m (m.t l)),(b2.m (m.t l)),(b3.m (m.t l))⟩) j Rn))
  refine Dn (Dr c j j (Bd q j z_148 j j) j fun a c=>Dl j (W q 4 d c j j j j j j j j j j fun a w c d=>Dn (Dz (T ?_))))
  obtain ⟨d4,cd,d,da⟩:=(d.front 1).giveR (xs:=([aq.1]).map TExpr.d) (by simp) a1
  obtain ⟨cq,ce,d,db⟩:=(d.front 0).giveR (xs:=([(TFrom.mk f.1 f.2.1 f.2.2.1 f.2.2.2.1 f.2.2.2.2.1 f.2.2.2.2.2.1 f.2.2.2.2.2.2.1),ap.1]).map TFrom.d) (by simp) (a0.m cd)
  cases g;exact ⟨cq,(p_ ax),2,(p_ ay),1,((l.t cd).t ce),c.kp j,(d.pick [0,2,3] (by decide) j),db,(da.m ce)⟩
end Go.Proofs.YtliaopbgkcdibaaGreat
