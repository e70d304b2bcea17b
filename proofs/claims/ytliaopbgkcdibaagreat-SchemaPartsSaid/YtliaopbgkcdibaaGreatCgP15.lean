/- The contracts: what the machine does at a call is what the plain function says. Written by mk.py. -/
import Derived.Test.YtliaopbgkcdibaaGreatCgP1
import Derived.Test.YtliaopbgkcdibaaGreatCgP6
import Derived.Test.YtliaopbgkcdibaaGreatCgP13
import Derived.Test.YtliaopbgkcdibaaGreatCgP14
set_option linter.unusedVariables false
set_option linter.unusedSimpArgs false
set_option maxRecDepth 100000
namespace Go.Proofs.YtliaopbgkcdibaaGreat
open Go.RowKit
theorem law08_SchemaParts.ok (k:Nat):law08_SchemaParts.C (law08_SchemaParts k):=by
  intro ak gt gu r d m i ge g dh
  unfold law08_SchemaParts at d
  obtain ⟨a4,bh,a5,bi,a6,bj,b0,b2,b1,b3,rfl,bk,bl,bm,z,aa⟩:=TSchema.inv.1 dh
  refine Ci 197 Tryz.func3 j j j fun a c=>?_
  refine S (G (s_box g c j j j j fun a w fx c g=>R q 1 c j fun a c=>E (T (S (S ?_)))));obtain ⟨ce,d,dv⟩:=bd d
  refine X c g (fun e L a' w'=>∃ bb,i.le bb∧Env a' 197 (sl e [1,2,3] [(37,.bool ce)])∧Inv m i [] bb L w') ?_ ?_
  · refine G (L g c j (B q 0 j j j j) j fun a c=>?_);obtain ⟨fc,ey,d⟩:=bd d
    refine J cl_4 g c j j ((law08_Few.ok k) ey g.pass0 (TSchema.inv.2 ⟨a4,bh,a5,bi,a6,bj,b0,b2,b1,b3,j,bk,bl,bm,z,aa⟩)) j ?_;rintro a w _ bf _ ⟨rfl,rfl⟩ bu g c
    refine R q 2 c j fun a c=>?_;rcases Bo (!fc) with ah | ah
    · replace d:=ct ah d;have c:=c.tr (t:=26) j ah;refine R q 11 c j fun a c=>E (T ?_);cases d;exact ⟨bf,bu,c.kp j,g⟩
    replace d:=cf ah d;have c:=c.tr (t:=26) j ah;refine R q 1 c j fun a c=>L g c j (B q 0 j j j j) j fun a c=>R q 4 c j fun a c=>?_
    rcases Bo (decide ((ak.Channels.length:Int)=(0:Int))) with ai | ai
    · replace d:=ct ai d;have c:=c.tr (t:=32) j ai;refine R q 5 c j fun a c=>E (T ?_);cases d;exact ⟨bf,bu,c.kp j,g⟩
    replace d:=cf ai d;have c:=c.tr (t:=32) j ai;refine R q 1 c j fun a c=>L g c j (B q 0 j j j j) j fun a c=>R q 3 c j fun a c=>E (T ?_)
    cases d;exact ⟨bf,bu,c.kp j,g⟩
  rintro a w ⟨bb,h,c,g⟩;have d:=dv;refine T (Cc (b:=ce) c j (fun br=>?_) (fun br=>?_))
  · replace d:=ct br d;refine S (G ?_);obtain ⟨gy,es,d⟩:=bd d;refine J cl_5 g c j j ((law08_alive.ok k) es g.pass0 ) j ?_;rintro a w _ fs _ ⟨rfl,rfl⟩ gl g c
    refine R q 1 c j fun a c=>E (T (V (Xr ?_)));cases d;refine N (v:=_) c j ⟨_,_,_,j,g.nil,j,j⟩
  replace d:=cf br d;refine K (T (S (G (L g c j (B q 0 j j j j) j fun a c=>?_))));obtain ⟨cw,ez,d⟩:=bd d
  refine J cl_6 g c j j ((schema_New.ok k) ez g.pass0 (TSchema.inv.2 ⟨a4,bh,a5,bi,a6,bj,b0,b2,b1,b3,j,(bk.m h),(bl.m h),(bm.m h),(z.m h),(aa.m h)⟩)) j ?_
  rintro a w _ ar _ ⟨rfl,fo,rfl,av⟩ l g c
  refine R q 7 c j fun a c=>E (T (S (S (G (R q 2 c j fun a c=>E (T (Cc (b:=!decide (cw.2.2=(0:Int))) c j (fun bq=>?_) (fun bq=>?_))))))))
  · replace d:=ct bq d;refine S ?_;obtain ⟨e9,d,d0⟩:=bd d;refine X c g (fun e L a' w'=>∃ bg,ar.le bg∧Env a' 197 [(6,.bool e9)]∧Inv m i [] bg [] w') ?_ ?_;rotate_left
    · rintro a w ⟨bg,gm,c,g⟩;have d:=d0;refine T (V (Xr ?_));cases d;refine N (v:=_) c j ⟨_,_,_,j,g.nil,j,j⟩
    refine G (R q 1 c j fun a c=>L g c j (f_pnil up_29 av j j) j fun a c=>R q 1 c j fun a c=>?_);rcases Bo cw.1.isNone with aj | aj;rotate_left
    · replace d:=cf aj d;have c:=c.tr (t:=49) j aj;refine R q 3 c j fun a c=>E (T ?_);cases d;exact ⟨ar,rf,c.kp j,(g.dropN 1 j)⟩
    replace d:=ct aj d;have c:=c.tr (t:=49) j aj;obtain ⟨g2,e0,d⟩:=bd d;refine J cl_5 g c j j ((law08_alive.ok k) e0 g.pass0 ) j ?_;rintro a w _ c0 _ ⟨rfl,rfl⟩ ef g c
    refine R q 2 c j fun a c=>E (T ?_);cases d;exact ⟨c0,ef,c.kp j,(g.dropN 1 j)⟩
  replace d:=cf bq d;refine K (T (S (Cd mixed (by kernel_rfl) g (Y q 2 c j fun a c=>Z c j (B q 0 j j j j) j fun a c=>Y q 1 c j fun a c=>?_))))
  obtain ⟨g3,e1,d⟩:=bd d
  refine Z c j (f_rem j j e1) j fun a c=>Y q 1 c j fun a c=>Z c j (B q 0 j j j j) j fun a c=>Y q 3 c j fun a c=>Z c j (B q 0 j j j j) j fun a c=>Y q 1 c j fun a c=>?_
  obtain ⟨g4,e2,d⟩:=bd d;refine Z c j (f_rem j j e2) j fun a c=>Y q 2 c j fun a c=>Z c j (B q 0 j j j j) j fun a c=>Y q 1 c j fun a c=>?_
  obtain ⟨g5,e3,d⟩:=bd d
  refine Z c j (f_rem j j e3) j fun a c=>Y q 1 c j fun a c=>Z c j (B q 0 j j j j) j fun a c=>Y q 3 c j fun a c=>Z c j (B q 0 j j j j) j fun a c=>Y q 1 c j fun a c=>?_
  obtain ⟨g6,e4,d⟩:=bd d;refine Z c j (f_rem j j e4) j fun a c=>Y q 2 c j fun a c=>Qe ?_;intro w g
  refine T (S (Cd mixed (by kernel_rfl) g (Y q 1 c j fun a c=>Z c j (B q 0 j j j j) j fun a c=>Y q 1 c j fun a c=>?_)));obtain ⟨co,cb,d⟩:=bd d
  obtain ⟨fv,gp,cs,d1,df,db⟩:=Sa (z.m (h.t l)) (Go cb).1 (Go cb).2;obtain rfl:=TPair.inv.1 df
  refine Z c j (I q d1 j j j) j fun a c=>Y q 1 c j fun a c=>Z c j (Fg q db 0 j j j j) j fun a c=>Y q 1 c j fun a c=>Z c j (B q 0 j j j j) j fun a c=>Y q 1 c j fun a c=>?_
  obtain ⟨cp,cc,d⟩:=bd d;obtain ⟨fw,gq,cs,d2,dg,dc⟩:=Sa (aa.m (h.t l)) (Go cc).1 (Go cc).2;obtain rfl:=TPair.inv.1 dg
  refine Z c j (I q d2 j j j) j fun a c=>Y q 1 c j fun a c=>Z c j (Fg q dc 0 j j j j) j fun a c=>Y q 2 c j fun a c=>Qe ?_;intro w g
  refine T (S (Mx [0] [11,13] (.step 1 0 (.step 2 1 (.step 3 0 (.step 4 0 (.step 6 0 (.step 7 1 (.step 8 0 (.step 9 0 (.step 10 0 (.step 0 2 (.step 5 2 (.step 11 3 (.step 12 0 (.step 13 3 .nil)))))))))))))) mixed (by kernel_rfl) g (by decide) j fun w g hS=>H q 1 c j fun a c=>Dd hS c j j (Rw fun _=>(B q 0 j j j j)) j fun a c=>H q 1 c j fun a c=>?_))
  obtain ⟨a2,e5,d⟩:=bd d;obtain ⟨fd,f4,c3,ei⟩:=f_cut (t:=23) (x:=.tmp 92) (lo:=none) (hi:=some (.tmp 93)) q c j (z.m (h.t l)) j j j e5
  refine Dr c j j (ei _) j fun a c=>H q 1 c j fun a c=>Dd hS c j j (Rw fun _=>(B q 0 j j j j)) j fun a c=>H q 2 c j fun a c=>?_
  obtain ⟨bx,e6,d⟩:=bd d;obtain ⟨fe,f5,c4,ej⟩:=f_cut (t:=23) (x:=.tmp 97) (lo:=some (.tmp 99)) (hi:=none) q c j (z.m (h.t l)) j j j e6
  refine Dr c j j (ej _) j fun a c=>Df j (Bs ai_23 g c j j j j j fun a w fy c g=>?_);have dj:RL ar 2 (([]:List TPair).map TPair.d) []:=Rn
  refine De (g.sw [1] (by decide) j rf) fun hS=>Df j ?_;obtain ⟨_,d3,d⟩:=bd d
  refine s_appG (f:=TPair.d) (xs:=([]:List TPair)) (ys:=a2) ai_23 0 g c j j c3 j j (Ll d3) j fun a w ff f6 gf c dl g=>?_;have dk:=Ra dj dl
  refine De (g.sw [1] (by decide) j rf) fun hS=>Dl j ?_;obtain ⟨_,d4,d⟩:=bd d
  refine s_appG (f:=TPair.d) (xs:=(([]:List TPair) ++ a2)) (ys:=bx) ai_23 0 g c j j c4 j j (Ll d4) j fun a w cx c1 gg c dn g=>?_;have dm:=Ra dk dn
  refine Dn (H q 1 c j fun a c=>Dl j (W q 1 g c j j j j j j j j j j fun a w c g=>Dn (Dz (T (S (Mx [1] [11,13] (.step 1 0 (.step 2 1 (.step 3 0 (.step 4 0 (.step 6 0 (.step 7 1 (.step 8 0 (.step 9 0 (.step 10 0 (.step 0 2 (.step 5 2 (.step 11 3 (.step 12 0 (.step 13 3 .nil)))))))))))))) mixed (by kernel_rfl) g (by decide) j fun w g hS=>H q 1 c j fun a c=>Dd hS c j j (Rw fun _=>(B q 0 j j j j)) j fun a c=>H q 1 c j fun a c=>?_))))))
  obtain ⟨a3,e7,d⟩:=bd d;obtain ⟨fg,f7,c5,ek⟩:=f_cut (t:=23) (x:=.tmp 105) (lo:=none) (hi:=some (.tmp 106)) q c j (aa.m (h.t l)) j j j e7
  refine Dr c j j (ek _) j fun a c=>H q 1 c j fun a c=>Dd hS c j j (Rw fun _=>(B q 0 j j j j)) j fun a c=>H q 2 c j fun a c=>?_
  obtain ⟨bz,e8,d⟩:=bd d;obtain ⟨fh,f8,c6,el⟩:=f_cut (t:=23) (x:=.tmp 110) (lo:=some (.tmp 112)) (hi:=none) q c j (aa.m (h.t l)) j j j e8
  refine Dr c j j (el _) j fun a c=>Df j (Bs ai_23 g c j j j j j fun a w fz c g=>?_);have dp:RL ar 2 (([]:List TPair).map TPair.d) []:=Rn
  refine De (g.sw [2] (by decide) j rf) fun hS=>Df j ?_;obtain ⟨_,d5,d⟩:=bd d
  refine s_appG (f:=TPair.d) (xs:=([]:List TPair)) (ys:=a3) ai_23 0 g c j j c5 j j (Ll d5) j fun a w fi f9 gh c dr g=>?_;have dq:=Ra dp dr
  refine De (g.sw [2] (by decide) j rf) fun hS=>Dl j ?_;obtain ⟨_,d6,d⟩:=bd d
  refine s_appG (f:=TPair.d) (xs:=(([]:List TPair) ++ a3)) (ys:=bz) ai_23 0 g c j j c6 j j (Ll d6) j fun a w cy c2 gi c dt g=>?_;have ds:=Ra dq dt
  refine Dn (H q 1 c j fun a c=>Dl j (W q 2 g c j j j j j j j j j j fun a w c g=>Dn (Dz (T (S (G (L g c j (B q 2 j j j j) j fun a c=>?_)))))))
  obtain ⟨fp,u,g,c7⟩:=(g.front 1).giveR (xs:=((([]:List TPair) ++ a2) ++ bx).map TPair.d) (by simp) dm
  obtain ⟨fq,y,g,c8⟩:=(g.front 0).giveR (xs:=((([]:List TPair) ++ a3) ++ bz).map TPair.d) (by simp) (ds.m u);obtain ⟨a1,eo,d⟩:=bd d
  refine J cl_6 g c j j ((schema_New.ok k) eo g.pass0 ((TSchema.inv (x:=(TSchema.mk ak.Levels ak.Edges ak.Tables ((([]:List TPair) ++ a2) ++ bx) ((([]:List TPair) ++ a3) ++ bz) ak.Limit))).2 ⟨a4,bh,a5,bi,a6,bj,cx,c1,cy,c2,j,(bk.m (((h.t l).t u).t y)),(bl.m (((h.t l).t u).t y)),(bm.m (((h.t l).t u).t y)),(c7.m y),c8⟩)) j ?_
  rintro a w _ a7 _ ⟨rfl,fj,rfl,au⟩ bs g c;refine R q 7 c j fun a c=>E (T (S (S ?_)));obtain ⟨cd,d,du⟩:=bd d
  refine X c g (fun e L a' w'=>∃ a8,a7.le a8∧Env a' 197 (sl e [7,10,11,12] [(135,.bool cd)])∧Inv m i [] a8 [] w') ?_ ?_
  · refine G (R q 3 c j fun a c=>?_);rcases Bo (!decide (a1.2.2=(0:Int))) with af | af
    · replace d:=ct af d;have c:=c.tr (t:=124) j af;refine R q 11 c j fun a c=>E (T ?_);cases d;exact ⟨a7,rf,c.kp j,(g.dropN 1 j)⟩
    replace d:=cf af d;have c:=c.tr (t:=124) j af;refine R q 1 c j fun a c=>L g c j (f_pnil up_29 au j j) j fun a c=>R q 2 c j fun a c=>?_
    rcases Bo a1.1.isNone with ag | ag
    · replace d:=ct ag d;have c:=c.tr (t:=128) j ag;refine R q 7 c j fun a c=>E (T ?_);cases d;exact ⟨a7,rf,c.kp j,(g.dropN 1 j)⟩
    replace d:=cf ag d;have c:=c.tr (t:=128) j ag;refine R q 1 c j fun a c=>?_;obtain ⟨gz,ev,d⟩:=bd d
    refine J cl_8 g c j j ((schema_Catalog_Tables.ok k) ev g.pass0 (av.m ((u.t y).t bs))) j ?_;rintro a w _ ft _ ⟨rfl,fm,gc,rfl,c9⟩ b9 g c
    refine R q 1 c j fun a c=>?_;obtain ⟨g0,ew,d⟩:=bd d;refine J cl_8 g c j j ((schema_Catalog_Tables.ok k) ew g.pass0 (au.m b9)) j ?_
    rintro a w _ fu _ ⟨rfl,fn,gd,rfl,da⟩ ca g c;obtain ⟨g1,ex,d⟩:=bd d;refine J cl_7 g c j j ((ref08_SameTables.ok k) ex g.pass0 (c9.m ca) da) j ?_
    rintro a w _ cz _ ⟨rfl,rfl⟩ ee g c;refine R q 2 c j fun a c=>E (T ?_);cases d;exact ⟨cz,((b9.t ca).t ee),c.kp j,(g.dropN 1 j)⟩
  rintro a w ⟨a8,ay,c,g⟩;have d:=du;refine T (Cc (b:=cd) c j (fun bp=>?_) (fun bp=>?_))
  · replace d:=ct bp d;refine S (G (R q 1 c j fun a c=>E (T (V (Xr ?_)))));cases d;refine N (v:=_) c j ⟨_,_,_,j,g.nil,j,j⟩
  replace d:=cf bp d;refine K (T (S (S (G (R q 1 c j fun a c=>?_)))));obtain ⟨cq,ep,d⟩:=bd d
  refine J cl_9 g c j j ((schema_Catalog_Channels.ok k) ep g.pass0 (av.m (((u.t y).t bs).t ay))) j ?_;rintro a w _ a9 _ ⟨rfl,fk,ga,rfl,b4⟩ bt g c
  refine R q 2 c j fun a c=>E (T ?_);obtain ⟨ci,p,b6⟩:=bd d
  refine X c g (fun e L a' w'=>∃ cl ba,ci = .go cl∧a9.le ba∧Env a' 197 (sl e [7,11,12] [])∧Inv m i [] ba L w') ?_ ?_
  ·
    refine O (Q c g (fun e L n' a' w'=>∃ i511 o ck al,n'=List.length o∧i511≤cq.length∧cq.drop i511=o∧forL (law08_SchemaParts.b1 k a1 co) i511 o ck=some ci∧a9.le al∧Env a' 197 (sl e [7,10,11,12,137,138] [(139,i_ (i511:Int))])∧Inv m i [] al L w') _ ⟨0,_,_,a9,j,Nat.zero_le _,j,p,rf,c.kp j,g⟩ ?_)
    rintro go a w ⟨i511,o,ck,al,rfl,eh,ax,p,az,c,g⟩;rcases o with _ | ⟨fb,o⟩
    · obtain rfl:=Fn p;have bw:=Do ax eh;refine S (G (R q 1 c j fun a c=>E (T (S ?_))));have c:=c.tr (t:=140) j (decide_eq_false (by omega))
      refine Fa c j (Ex (Xe (Xe (Xh (T (⟨_,al,j,az,c.kp j,g⟩))))))
    obtain ⟨gw,d,p⟩:=Fs p;obtain ⟨en,ax,bw⟩:=Dc ax;unfold law08_SchemaParts.b1 at d;refine S (G (R q 1 c j fun a c=>E (T (S ?_))))
    have c:=c.tr (t:=140) j (decide_eq_true (by omega));refine Tr c j (K (T (S (O (S (G ?_))))))
    obtain ⟨f2,gs,cs,d8,dy,de⟩:=Sa (b4.m az) (Int.natCast_nonneg _) (natIdx en);obtain rfl:=TNamed.inv.1 dy
    refine L g c j (I q d8 j j j) j fun a c=>L g c j (Fg q de 0 j j j j) j fun a c=>A g c j z_41 j j fun a w f3 c g=>W q 0 g c j j j j j j j j j j fun a w c g=>E (T (S (G (R q 2 c j fun a c=>L g c j (B q 0 j j j j) j fun a c=>?_))))
    obtain ⟨cv,eu,d⟩:=bd d;refine J cl_10 g c j j ((schema_Catalog_Channel.ok k) eu g.pass0 (au.m ((ay.t bt).t az))) j ?_;rintro a w _ ap _ ⟨rfl,rfl⟩ ec g c
    refine R q 5 c j fun a c=>E (T (S ?_));obtain ⟨ch,d,dz⟩:=bd d
    refine X c g (fun e L a' w'=>∃ aq,ap.le aq∧Env a' 197 (sl e [7,10,11,12,137,138,139] [(164,.bool ch)])∧Inv m i [] aq [] w') ?_ ?_;rotate_left
    · rintro a w ⟨aq,ed,c,g⟩;have d:=dz;refine T (Cc (b:=ch) c j (fun bo=>?_) (fun bo=>?_))
      · replace d:=ct bo d;refine S (G (R q 1 c j fun a c=>E (T (V (Xb (Xr (Xr (Xb (Xr (Xr ?_))))))))));cases d;obtain rfl:=Nr p;have d:=Le b6;cases d
        refine N (v:=_) c j ⟨_,_,_,j,g.nil,j,j⟩
      replace d:=cf bo d;refine K (xB (T (G (R q 2 c j fun a c=>E (T ?_)))));cases d;have c:=c.setI (t:=139) j (Wc bw (Ln b4))
      exact ⟨o.length,Nat.lt_succ_self _,i511 + 1,o,_,aq,j,bw,ax,p,((az.t ec).t ed),c.kp j,g⟩
    
    refine G (R q 2 c j fun a c=>L g c j (B q 0 j j j j) j fun a c=>R q 2 c j fun a c=>L g c j (f_bne ub_4 j j) j fun a c=>R q 1 c j fun a c=>?_)
    rcases Bo (!(cv.2 == (!decide (fb.Name=co.Low)))) with ad | ad
    · replace d:=ct ad d;have c:=c.tr (t:=156) j ad;refine R q 8 c j fun a c=>E (T ?_);cases d;exact ⟨ap,rf,c.kp j,(g.dropN 1 j)⟩
    replace d:=cf ad d;have c:=c.tr (t:=156) j ad;refine R q 2 c j fun a c=>?_;rcases Bo cv.2 with ae | ae;rotate_left
    · replace d:=cf ae d;have c:=c.tr (t:=158) j ae;refine R q 6 c j fun a c=>E (T ?_);cases d;exact ⟨ap,rf,c.kp j,(g.dropN 1 j)⟩
    replace d:=ct ae d;have c:=c.tr (t:=158) j ae;refine R q 2 c j fun a c=>L g c j (B q 0 j j j j) j fun a c=>R q 3 c j fun a c=>E (T ?_)
    cases d;exact ⟨ap,rf,c.kp j,(g.dropN 1 j)⟩
  rintro a w ⟨cl,ba,rfl,b8,c,g⟩;have d:=Lg b6;refine T (S (S (G (R q 1 c j fun a c=>?_))));obtain ⟨cr,eq,d⟩:=bd d
  refine J cl_11 g c j j ((schema_Catalog_Principals.ok k) eq g.pass0 (av.m (((((u.t y).t bs).t ay).t bt).t b8))) j ?_
  rintro a w _ bc _ ⟨rfl,fl,gb,rfl,b5⟩ d9 g c;refine R q 2 c j fun a c=>E (T ?_);obtain ⟨cj,s,b7⟩:=bd d
  refine X c g (fun e L a' w'=>∃ cn be,cj = .go cn∧bc.le be∧Env a' 197 []∧Inv m i [] be L w') ?_ ?_;rotate_left
  · rintro a w ⟨cn,be,rfl,gj,c,g⟩;have d:=Lg b7;refine T (S (G ?_));obtain ⟨gx,er,d⟩:=bd d;refine J cl_5 g c j j ((law08_alive.ok k) er g.pass0 ) j ?_
    rintro a w _ fr _ ⟨rfl,rfl⟩ gk g c;refine R q 1 c j fun a c=>E (T (V ?_));cases d;refine N (v:=_) c j ⟨_,_,_,j,g.nil,j,j⟩
  
  refine O (Q c g (fun e L n' a' w'=>∃ i476 n cm am,n'=List.length n∧i476≤cr.length∧cr.drop i476=n∧forL (law08_SchemaParts.b0 k a1 cp) i476 n cm=some cj∧bc.le am∧Env a' 197 (sl e [11,12,167,168] [(169,i_ (i476:Int))])∧Inv m i [] am L w') _ ⟨0,_,_,bc,j,Nat.zero_le _,j,s,rf,c.kp j,g⟩ ?_)
  rintro gn a w ⟨i476,n,cm,am,rfl,eg,aw,s,a0,c,g⟩;rcases n with _ | ⟨fa,n⟩
  · obtain rfl:=Fn s;have bv:=Do aw eg;refine S (G (R q 1 c j fun a c=>E (T (S ?_))));have c:=c.tr (t:=170) j (decide_eq_false (by omega))
    refine Fa c j (Ex (Xe (Xe (Xh (T (⟨_,am,j,a0,c.kp j,g⟩))))))
  obtain ⟨gv,d,s⟩:=Fs s;obtain ⟨em,aw,bv⟩:=Dc aw;unfold law08_SchemaParts.b0 at d;refine S (G (R q 1 c j fun a c=>E (T (S ?_))))
  have c:=c.tr (t:=170) j (decide_eq_true (by omega));refine Tr c j (K (T (S (O (S (G ?_))))))
  obtain ⟨f0,gr,cs,d7,dw,dd⟩:=Sa (b5.m a0) (Int.natCast_nonneg _) (natIdx em);obtain rfl:=TNamed.inv.1 dw
  refine L g c j (I q d7 j j j) j fun a c=>L g c j (Fg q dd 0 j j j j) j fun a c=>A g c j z_41 j j fun a w f1 c g=>W q 0 g c j j j j j j j j j j fun a w c g=>E (T (S (G (R q 2 c j fun a c=>L g c j (B q 0 j j j j) j fun a c=>?_))))
  obtain ⟨cu,et,d⟩:=bd d;refine J cl_12 g c j j ((schema_Catalog_Principal.ok k) et g.pass0 (au.m ((((ay.t bt).t b8).t d9).t a0))) j ?_
  rintro a w _ an _ ⟨rfl,rfl⟩ ea g c;refine R q 5 c j fun a c=>E (T (S ?_));obtain ⟨cg,d,dx⟩:=bd d
  refine X c g (fun e L a' w'=>∃ ao,an.le ao∧Env a' 197 (sl e [11,12,167,168,169] [(194,.bool cg)])∧Inv m i [] ao [] w') ?_ ?_;rotate_left
  · rintro a w ⟨ao,eb,c,g⟩;have d:=dx;refine T (Cc (b:=cg) c j (fun bn=>?_) (fun bn=>?_))
    · replace d:=ct bn d;refine S (G (R q 1 c j fun a c=>E (T (V (Xb (Xr (Xr (Xb (Xr (Xr ?_))))))))));cases d;obtain rfl:=Nr s;have d:=Le b7;cases d
      refine N (v:=_) c j ⟨_,_,_,j,g.nil,j,j⟩
    replace d:=cf bn d;refine K (xB (T (G (R q 2 c j fun a c=>E (T ?_)))));cases d;have c:=c.setI (t:=169) j (Wc bv (Ln b5))
    exact ⟨n.length,Nat.lt_succ_self _,i476 + 1,n,_,ao,j,bv,aw,s,((a0.t ea).t eb),c.kp j,g⟩
  
  refine G (R q 2 c j fun a c=>L g c j (B q 0 j j j j) j fun a c=>R q 2 c j fun a c=>L g c j (f_bne ub_4 j j) j fun a c=>R q 1 c j fun a c=>?_)
  rcases Bo (!(cu.2 == (!decide (fa.Name=cp.Low)))) with ab | ab
  · replace d:=ct ab d;have c:=c.tr (t:=186) j ab;refine R q 8 c j fun a c=>E (T ?_);cases d;exact ⟨an,rf,c.kp j,(g.dropN 1 j)⟩
  replace d:=cf ab d;have c:=c.tr (t:=186) j ab;refine R q 2 c j fun a c=>?_;rcases Bo cu.2 with ac | ac;rotate_left
  · replace d:=cf ac d;have c:=c.tr (t:=188) j ac;refine R q 6 c j fun a c=>E (T ?_);cases d;exact ⟨an,rf,c.kp j,(g.dropN 1 j)⟩
  replace d:=ct ac d;have c:=c.tr (t:=188) j ac;refine R q 2 c j fun a c=>L g c j (B q 0 j j j j) j fun a c=>R q 3 c j fun a c=>E (T ?_)
  cases d;exact ⟨an,rf,c.kp j,(g.dropN 1 j)⟩
end Go.Proofs.YtliaopbgkcdibaaGreat
