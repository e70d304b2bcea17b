/- The contracts: what the machine does at a call is what the plain function says. Written by mk.py. -/
import Derived.Test.YtliaopbgkcdibaaGreatCgP6
import Derived.Test.YtliaopbgkcdibaaGreatCgP13
set_option linter.unusedVariables false
set_option linter.unusedSimpArgs false
set_option maxRecDepth 100000
namespace Go.Proofs.YtliaopbgkcdibaaGreat
open Go.RowKit
theorem ref06_SameQuery.F_ok (k:Nat) (s_ref06_SameExprs:(List TExpr)→(List TExpr)→Option Bool) (s_ref06_SameExpr:TExpr→TExpr→Option Bool) (s_ref06_SameQueries:(List TQuery)→(List TQuery)→Option Bool) (s_ref06_SameQuery:TQuery→TQuery→Option Bool) (s_ref06_SameFroms:(List TFrom)→(List TFrom)→Option Bool) (hs_ref06_SameExprs:ref06_SameExprs.C s_ref06_SameExprs) (hs_ref06_SameExpr:ref06_SameExpr.C s_ref06_SameExpr) (hs_ref06_SameQueries:ref06_SameQueries.C s_ref06_SameQueries) (hs_ref06_SameQuery:ref06_SameQuery.C s_ref06_SameQuery) (hs_ref06_SameFroms:ref06_SameFroms.C s_ref06_SameFroms):ref06_SameQuery.C (ref06_SameQuery.F k s_ref06_SameExprs s_ref06_SameExpr s_ref06_SameQueries s_ref06_SameQuery s_ref06_SameFroms):=by
  intro p ah r d x i fw fx f c5 c7
  unfold ref06_SameQuery.F at d
  obtain ⟨ee,fd,ep,fq,ez,fv,ef,fa,eg,fb,eh,fc,ei,fe,rfl,a4,cp,cw,cc,cd,a3,ce⟩:=TQuery.inv.1 c5
  obtain ⟨ej,ff,ek,fg,el,fh,em,fi,en,fj,eo,fk,eq,fl,rfl,ba,cg,ch,ci,cj,bb,ck⟩:=TQuery.inv.1 c7
  refine Ci 149 Tryz.func75 j j j fun a c=>?_
  refine S (G (s_box f c j j j j fun a w e1 c f=>s_box f c j j j j fun a w e2 c f=>R q 1 c j fun a c=>E (T (S (S ?_)))));obtain ⟨bi,d,dd⟩:=bd d
  refine X c f (fun e L a' w'=>∃ ae,i.le ae∧Env a' 149 (sl e [2,3] [(43,.bool bi)])∧Inv x i [] ae L w') ?_ ?_
  ·
    refine G (R q 1 c j fun a c=>L f c j (B q 1 j j j j) j fun a c=>R q 1 c j fun a c=>L f c j (B q 0 j j j j) j fun a c=>R q 2 c j fun a c=>?_)
    rcases Bo (!decide (p.Kind=ah.Kind)) with ao | ao
    · replace d:=ct ao d;have c:=c.tr (t:=12) j ao;refine R q 31 c j fun a c=>E (T ?_);cases d;exact ⟨i,rf,c.kp j,f⟩
    replace d:=cf ao d;have c:=c.tr (t:=12) j ao
    refine R q 1 c j fun a c=>L f c j (B q 1 j j j j) j fun a c=>R q 1 c j fun a c=>L f c j (B q 0 j j j j) j fun a c=>L f c j (f_bne ub_4 j j) j fun a c=>R q 2 c j fun a c=>?_
    rcases Bo (!(p.Distinct == ah.Distinct)) with ap | ap
    · replace d:=ct ap d;have c:=c.tr (t:=19) j ap;refine R q 24 c j fun a c=>E (T ?_);cases d;exact ⟨i,rf,c.kp j,f⟩
    replace d:=cf ap d;have c:=c.tr (t:=19) j ap
    refine R q 1 c j fun a c=>L f c j (B q 1 j j j j) j fun a c=>R q 1 c j fun a c=>L f c j (B q 0 j j j j) j fun a c=>R q 3 c j fun a c=>?_
    rcases Bo (!decide (p.Limit=ah.Limit)) with aq | aq
    · replace d:=ct aq d;have c:=c.tr (t:=26) j aq;refine R q 17 c j fun a c=>E (T ?_);cases d;exact ⟨i,rf,c.kp j,f⟩
    replace d:=cf aq d;have c:=c.tr (t:=26) j aq
    refine R q 1 c j fun a c=>L f c j (B q 1 j j j j) j fun a c=>R q 2 c j fun a c=>L f c j (B q 0 j j j j) j fun a c=>R q 4 c j fun a c=>?_
    rcases Bo (!decide ((p.Items.length:Int)=(ah.Items.length:Int))) with ar | ar
    · replace d:=ct ar d;have c:=c.tr (t:=35) j ar;refine R q 8 c j fun a c=>E (T ?_);cases d;exact ⟨i,rf,c.kp j,f⟩
    replace d:=cf ar d;have c:=c.tr (t:=35) j ar
    refine R q 1 c j fun a c=>L f c j (B q 1 j j j j) j fun a c=>R q 2 c j fun a c=>L f c j (B q 0 j j j j) j fun a c=>R q 3 c j fun a c=>E (T ?_)
    cases d;exact ⟨i,rf,c.kp j,f⟩
  rintro a w ⟨ae,g,c,f⟩;have d:=dd;refine T (Cc (b:=bi) c j (fun a7=>?_) (fun a7=>?_))
  · replace d:=ct a7 d;refine S (G (R q 1 c j fun a c=>E (T (V (Xr ?_)))));cases d;refine N (v:=_) c j ⟨_,_,_,j,f.nil,j,j⟩
  replace d:=cf a7 d;refine K (T (S (S (G (R q 1 c j fun a c=>E (T ?_))))));obtain ⟨bk,aa,bc⟩:=bd d
  refine X c f (fun e L a' w'=>∃ bn ad,bk = .go bn∧ae.le ad∧Env a' 149 (sl e [2,3] [])∧Inv x i [] ad L w') ?_ ?_
  ·
    refine O (Q c f (fun e L n' a' w'=>∃ i525 u bm y,n'=List.length u∧i525≤p.Items.length∧p.Items.drop i525=u∧forL (ref06_SameQuery.b1 k s_ref06_SameExprs s_ref06_SameExpr s_ref06_SameQueries s_ref06_SameQuery s_ref06_SameFroms ah) i525 u bm=some bk∧ae.le y∧Env a' 149 (sl e [2,3] [(5,i_ (i525:Int))])∧Inv x i [] y L w') _ ⟨0,_,_,ae,j,Nat.zero_le _,j,aa,rf,c.kp j,f⟩ ?_)
    rintro f8 a w ⟨i525,u,bm,y,rfl,dx,ay,aa,af,c,f⟩;rcases u with _ | ⟨d7,u⟩
    · obtain rfl:=Fn aa;have a9:=Do ay dx
      refine S (S (G (R q 2 c j fun a c=>L f c j (B q 1 j j j j) j fun a c=>R q 2 c j fun a c=>E (T ?_))))
      have c:=c.tr (t:=48) j (decide_eq_false (by omega));refine Fa c j (Ex (Xe (Xe (Xh (T (⟨_,y,j,af,c.kp j,f⟩))))))
    obtain ⟨gi,d,aa⟩:=Fs aa;obtain ⟨bg,ay,a9⟩:=Dc ay;unfold ref06_SameQuery.b1 at d
    refine S (S (G (R q 2 c j fun a c=>L f c j (B q 1 j j j j) j fun a c=>R q 2 c j fun a c=>E (T ?_))))
    have c:=c.tr (t:=48) j (decide_eq_true (by omega));refine Tr c j (K (T (S (O (S ?_)))));obtain ⟨bj,d,de⟩:=bd d
    refine X c f (fun e L a' w'=>∃ aw,y.le aw∧Env a' 149 (sl e [2,3,5] [(79,.bool bj)])∧Inv x i [] aw L w') ?_ ?_;rotate_left
    · rintro a w ⟨aw,dv,c,f⟩;have d:=de;refine T (Cc (b:=bj) c j (fun a6=>?_) (fun a6=>?_))
      · replace d:=ct a6 d;refine S (G (R q 1 c j fun a c=>E (T (V (Xb (Xr (Xr (Xb (Xr (Xr ?_))))))))));cases d;obtain rfl:=Nr aa;have d:=Le bc;cases d
        refine N (v:=_) c j ⟨_,_,_,j,f.nil,j,j⟩
      replace d:=cf a6 d;refine K (xB (T (G (R q 3 c j fun a c=>E (T ?_)))));cases d;have c:=c.setI (t:=5) j (Wc a9 (Ln a4))
      exact ⟨u.length,Nat.lt_succ_self _,i525 + 1,u,_,aw,j,a9,ay,aa,(af.t dv),c.kp j,f⟩
    refine Cd mixed (by kernel_rfl) f (Y q 1 c j fun a c=>Z c j (B q 1 j j j j) j fun a c=>Y q 1 c j fun a c=>?_)
    obtain ⟨e6,gd,cs,dp,df,c1⟩:=Sa (a4.m (g.t af)) (Int.natCast_nonneg _) (natIdx bg);obtain ⟨ev,fr,ew,fs,rfl,f2,f3⟩:=TItem.inv.1 df
    refine Z c j (I q dp j j j) j fun a c=>Y q 1 c j fun a c=>Z c j (Fg q c1 6 j j j j) j fun a c=>Y q 1 c j fun a c=>Z c j (B q 0 j j j j) j fun a c=>Y q 1 c j fun a c=>?_
    obtain ⟨ed,a1,d⟩:=bd d;obtain ⟨e7,ge,cs,dq,dg,c2⟩:=Sa (ba.m (g.t af)) (Go a1).1 (Go a1).2
    obtain ⟨ex,ft,ey,fu,rfl,f4,f5⟩:=TItem.inv.1 dg
    refine Z c j (I q dq j j j) j fun a c=>Y q 1 c j fun a c=>Z c j (Fg q c2 6 j j j j) j fun a c=>Y q 2 c j fun a c=>?_
    rcases Bo (!decide (d7.Name=ed.Name)) with an | an
    · replace d:=ct an d;have c:=c.tr (t:=64) j an;refine Y q 15 c j fun a c=>Qe ?_;intro w f;refine T ?_;cases d;exact ⟨y,rf,c.kp j,f⟩
    replace d:=cf an d;have c:=c.tr (t:=64) j an;refine Y q 1 c j fun a c=>Z c j (B q 1 j j j j) j fun a c=>Y q 1 c j fun a c=>?_
    obtain ⟨e8,gf,cs,dr,dh,c3⟩:=Sa (a4.m (g.t af)) (Int.natCast_nonneg _) (natIdx bg);obtain ⟨bu,b8,bv,b9,rfl,cq,cr⟩:=TItem.inv.1 dh
    refine Z c j (I q dr j j j) j fun a c=>Y q 1 c j fun a c=>Z c j (Fg q c3 0 j j j j) j fun a c=>Y q 1 c j fun a c=>Z c j (B q 0 j j j j) j fun a c=>Y q 1 c j fun a c=>?_
    obtain ⟨e9,gg,cs,ds,dj,c4⟩:=Sa (ba.m (g.t af)) (Go a1).1 (Go a1).2;obtain ⟨bw,ca,bx,cb,rfl,cu,cv⟩:=TItem.inv.1 dj
    refine Z c j (I q ds j j j) j fun a c=>Y q 1 c j fun a c=>Z c j (Fg q c4 0 j j j j) j fun a c=>?_;obtain ⟨gl,d4,d⟩:=bd d
    refine Qc cl_46 c j j (fun w f=>hs_ref06_SameExpr d4 f.pass0 (TExpr.inv.2 ⟨bu,b8,bv,b9,j,cq,cr⟩) (TExpr.inv.2 ⟨bw,ca,bx,cb,j,cu,cv⟩)) (fun _ _ _ h=>h.2) j fun a c=>Y q 2 c j fun a c=>Qe ?_
    intro w f;refine T ?_;cases d;exact ⟨y,rf,c.kp j,f⟩
  rintro a w ⟨bn,ad,rfl,l,c,f⟩;have d:=Lg bc;refine T (S (S (G (R q 1 c j fun a c=>E (T ?_)))));obtain ⟨bl,ab,be⟩:=bd d
  refine X c f (fun e L a' w'=>∃ bp au,bl = .go bp∧ad.le au∧Env a' 149 (sl e [2,3] [])∧Inv x i [] au L w') ?_ ?_;rotate_left
  · rintro a w ⟨bp,au,rfl,n,c,f⟩;have d:=Lg be;refine T (S ?_);obtain ⟨d5,d,c6⟩:=bd d
    refine X c f (fun e L a' w'=>∃ a2,au.le a2∧Env a' 149 [(4,.bool d5)]∧Inv x i [] a2 [] w') ?_ ?_;rotate_left
    · rintro a w ⟨a2,f6,c,f⟩;have d:=c6;refine T (V ?_);cases d;refine N (v:=_) c j ⟨_,_,_,j,f.nil,j,j⟩
    refine G (R q 1 c j fun a c=>L f c j (B q 1 j j j j) j fun a c=>R q 1 c j fun a c=>L f c j (B q 0 j j j j) j fun a c=>?_)
    obtain ⟨d8,dy,d⟩:=bd d;refine J cl_82 f c j j (hs_ref06_SameFroms dy f.pass0 (cp.m ((g.t l).t n)) (cg.m ((g.t l).t n))) j ?_
    rintro a w _ bz _ ⟨rfl,rfl⟩ m f c;refine R q 1 c j fun a c=>?_;rcases Bo d8 with ai | ai;rotate_left
    · replace d:=cf ai d;have c:=c.tr (t:=121) j ai;refine R q 28 c j fun a c=>E (T ?_);cases d;exact ⟨bz,m,c.kp j,(f.dropN 2 j)⟩
    replace d:=ct ai d;have c:=c.tr (t:=121) j ai
    refine R q 1 c j fun a c=>L f c j (B q 1 j j j j) j fun a c=>R q 1 c j fun a c=>L f c j (B q 0 j j j j) j fun a c=>?_
    obtain ⟨d9,dz,d⟩:=bd d
    refine J cl_20 f c j j (hs_ref06_SameExprs dz f.pass0 (cw.m (((g.t l).t n).t m)) (ch.m (((g.t l).t n).t m))) j ?_
    rintro a w _ b0 _ ⟨rfl,rfl⟩ o f c;refine R q 2 c j fun a c=>?_;rcases Bo d9 with aj | aj;rotate_left
    · replace d:=cf aj d;have c:=c.tr (t:=128) j aj;refine R q 21 c j fun a c=>E (T ?_);cases d;exact ⟨b0,(m.t o),c.kp j,(f.dropN 2 j)⟩
    replace d:=ct aj d;have c:=c.tr (t:=128) j aj
    refine R q 1 c j fun a c=>L f c j (B q 1 j j j j) j fun a c=>R q 1 c j fun a c=>L f c j (B q 0 j j j j) j fun a c=>?_
    obtain ⟨ea,d0,d⟩:=bd d
    refine J cl_20 f c j j (hs_ref06_SameExprs d0 f.pass0 (cc.m ((((g.t l).t n).t m).t o)) (ci.m ((((g.t l).t n).t m).t o))) j ?_
    rintro a w _ b1 _ ⟨rfl,rfl⟩ ac f c;refine R q 2 c j fun a c=>?_;rcases Bo ea with ak | ak;rotate_left
    · replace d:=cf ak d;have c:=c.tr (t:=135) j ak;refine R q 14 c j fun a c=>E (T ?_);cases d;exact ⟨b1,((m.t o).t ac),c.kp j,(f.dropN 2 j)⟩
    replace d:=ct ak d;have c:=c.tr (t:=135) j ak
    refine R q 1 c j fun a c=>L f c j (B q 1 j j j j) j fun a c=>R q 1 c j fun a c=>L f c j (B q 0 j j j j) j fun a c=>?_
    obtain ⟨eb,d1,d⟩:=bd d
    refine J cl_20 f c j j (hs_ref06_SameExprs d1 f.pass0 (cd.m (((((g.t l).t n).t m).t o).t ac)) (cj.m (((((g.t l).t n).t m).t o).t ac))) j ?_
    rintro a w _ b2 _ ⟨rfl,rfl⟩ az f c;refine R q 2 c j fun a c=>?_;rcases Bo eb with al | al;rotate_left
    · replace d:=cf al d;have c:=c.tr (t:=142) j al;refine R q 7 c j fun a c=>E (T ?_);cases d;exact ⟨b2,(((m.t o).t ac).t az),c.kp j,(f.dropN 2 j)⟩
    replace d:=ct al d;have c:=c.tr (t:=142) j al
    refine R q 1 c j fun a c=>L f c j (B q 1 j j j j) j fun a c=>R q 1 c j fun a c=>L f c j (B q 0 j j j j) j fun a c=>?_
    obtain ⟨gj,d2,d⟩:=bd d
    refine J cl_58 f c j j (hs_ref06_SameQueries d2 f.pass0 (ce.m ((((((g.t l).t n).t m).t o).t ac).t az)) (ck.m ((((((g.t l).t n).t m).t o).t ac).t az))) j ?_
    rintro a w _ b3 _ ⟨rfl,rfl⟩ dt f c;refine R q 2 c j fun a c=>E (T ?_);cases d;exact ⟨b3,((((m.t o).t ac).t az).t dt),c.kp j,(f.dropN 2 j)⟩
  
  refine O (Q c f (fun e L n' a' w'=>∃ i391 s bo z,n'=List.length s∧i391≤p.Order.length∧p.Order.drop i391=s∧forL (ref06_SameQuery.b0 k s_ref06_SameExprs s_ref06_SameExpr s_ref06_SameQueries s_ref06_SameQuery s_ref06_SameFroms ah) i391 s bo=some bl∧ad.le z∧Env a' 149 (sl e [2,3] [(6,i_ (i391:Int))])∧Inv x i [] z L w') _ ⟨0,_,_,ad,j,Nat.zero_le _,j,ab,rf,c.kp j,f⟩ ?_)
  rintro f7 a w ⟨i391,s,bo,z,rfl,dw,ax,ab,ag,c,f⟩;rcases s with _ | ⟨d6,s⟩
  · obtain rfl:=Fn ab;have a8:=Do ax dw
    refine S (S (G (R q 2 c j fun a c=>L f c j (B q 1 j j j j) j fun a c=>R q 2 c j fun a c=>E (T ?_))))
    have c:=c.tr (t:=84) j (decide_eq_false (by omega));refine Fa c j (Ex (Xe (Xe (Xh (T (⟨_,z,j,ag,c.kp j,f⟩))))))
  obtain ⟨gh,d,ab⟩:=Fs ab;obtain ⟨bf,ax,a8⟩:=Dc ax;unfold ref06_SameQuery.b0 at d
  refine S (S (G (R q 2 c j fun a c=>L f c j (B q 1 j j j j) j fun a c=>R q 2 c j fun a c=>E (T ?_))))
  have c:=c.tr (t:=84) j (decide_eq_true (by omega));refine Tr c j (K (T (S (O (S ?_)))));obtain ⟨bh,d,c8⟩:=bd d
  refine X c f (fun e L a' w'=>∃ av,z.le av∧Env a' 149 (sl e [2,3,6] [(115,.bool bh)])∧Inv x i [] av L w') ?_ ?_;rotate_left
  · rintro a w ⟨av,du,c,f⟩;have d:=c8;refine T (Cc (b:=bh) c j (fun a5=>?_) (fun a5=>?_))
    · replace d:=ct a5 d;refine S (G (R q 1 c j fun a c=>E (T (V (Xb (Xr (Xr (Xb (Xr (Xr ?_))))))))));cases d;obtain rfl:=Nr ab;have d:=Le be;cases d
      refine N (v:=_) c j ⟨_,_,_,j,f.nil,j,j⟩
    replace d:=cf a5 d;refine K (xB (T (G (R q 3 c j fun a c=>E (T ?_)))));cases d;have c:=c.setI (t:=6) j (Wc a8 (Ln a3))
    exact ⟨s.length,Nat.lt_succ_self _,i391 + 1,s,_,av,j,a8,ax,ab,(ag.t du),c.kp j,f⟩
  refine Cd mixed (by kernel_rfl) f (Y q 1 c j fun a c=>Z c j (B q 1 j j j j) j fun a c=>Y q 1 c j fun a c=>?_)
  obtain ⟨e0,f9,cs,dk,c9,cx⟩:=Sa (a3.m ((g.t l).t ag)) (Int.natCast_nonneg _) (natIdx bf);obtain ⟨er,fm,es,fn,rfl,fy,fz⟩:=TKey.inv.1 c9
  refine Z c j (I q dk j j j) j fun a c=>Y q 1 c j fun a c=>Z c j (Fg q cx 6 j j j j) j fun a c=>Y q 1 c j fun a c=>Z c j (B q 0 j j j j) j fun a c=>Y q 1 c j fun a c=>?_
  obtain ⟨ec,a0,d⟩:=bd d;obtain ⟨e3,ga,cs,dl,da,cy⟩:=Sa (bb.m ((g.t l).t ag)) (Go a0).1 (Go a0).2
  obtain ⟨et,fo,eu,fp,rfl,f0,f1⟩:=TKey.inv.1 da
  refine Z c j (I q dl j j j) j fun a c=>Y q 1 c j fun a c=>Z c j (Fg q cy 6 j j j j) j fun a c=>Z c j (f_bne ub_4 j j) j fun a c=>Y q 1 c j fun a c=>?_
  rcases Bo (!(d6.Desc == ec.Desc)) with am | am
  · replace d:=ct am d;have c:=c.tr (t:=100) j am;refine Y q 15 c j fun a c=>Qe ?_;intro w f;refine T ?_;cases d;exact ⟨z,rf,c.kp j,f⟩
  replace d:=cf am d;have c:=c.tr (t:=100) j am;refine Y q 1 c j fun a c=>Z c j (B q 1 j j j j) j fun a c=>Y q 1 c j fun a c=>?_
  obtain ⟨e4,gb,cs,dm,db,cz⟩:=Sa (a3.m ((g.t l).t ag)) (Int.natCast_nonneg _) (natIdx bf);obtain ⟨bq,b4,br,b5,rfl,cl,cm⟩:=TKey.inv.1 db
  refine Z c j (I q dm j j j) j fun a c=>Y q 1 c j fun a c=>Z c j (Fg q cz 0 j j j j) j fun a c=>Y q 1 c j fun a c=>Z c j (B q 0 j j j j) j fun a c=>Y q 1 c j fun a c=>?_
  obtain ⟨e5,gc,cs,dn,dc,c0⟩:=Sa (bb.m ((g.t l).t ag)) (Go a0).1 (Go a0).2;obtain ⟨bs,b6,bt,b7,rfl,cn,co⟩:=TKey.inv.1 dc
  refine Z c j (I q dn j j j) j fun a c=>Y q 1 c j fun a c=>Z c j (Fg q c0 0 j j j j) j fun a c=>?_;obtain ⟨gk,d3,d⟩:=bd d
  refine Qc cl_46 c j j (fun w f=>hs_ref06_SameExpr d3 f.pass0 (TExpr.inv.2 ⟨bq,b4,br,b5,j,cl,cm⟩) (TExpr.inv.2 ⟨bs,b6,bt,b7,j,cn,co⟩)) (fun _ _ _ h=>h.2) j fun a c=>Y q 2 c j fun a c=>Qe ?_
  intro w f;refine T ?_;cases d;exact ⟨z,rf,c.kp j,f⟩

theorem ref06_SameFroms.F_ok (k:Nat) (s_ref06_SameExprs:(List TExpr)→(List TExpr)→Option Bool) (s_ref06_SameExpr:TExpr→TExpr→Option Bool) (s_ref06_SameQueries:(List TQuery)→(List TQuery)→Option Bool) (s_ref06_SameQuery:TQuery→TQuery→Option Bool) (s_ref06_SameFroms:(List TFrom)→(List TFrom)→Option Bool) (hs_ref06_SameExprs:ref06_SameExprs.C s_ref06_SameExprs) (hs_ref06_SameExpr:ref06_SameExpr.C s_ref06_SameExpr) (hs_ref06_SameQueries:ref06_SameQueries.C s_ref06_SameQueries) (hs_ref06_SameQuery:ref06_SameQuery.C s_ref06_SameQuery) (hs_ref06_SameFroms:ref06_SameFroms.C s_ref06_SameFroms):ref06_SameFroms.C (ref06_SameFroms.F k s_ref06_SameExprs s_ref06_SameExpr s_ref06_SameQueries s_ref06_SameQuery s_ref06_SameFroms):=by
  intro a2 br r f af m co cu cp cv d bk b4
  unfold ref06_SameFroms.F at f
  refine Ci 77 Tryz.func82 j j j fun a c=>?_
  
  refine S (G (R q 1 c j fun a c=>E (T (S (S (G (R q 5 c j fun a c=>E (T (Cc (b:=!decide ((a2.length:Int)=(br.length:Int))) c j (fun a0=>?_) (fun a0=>?_))))))))))
  · replace f:=ct a0 f;refine S (G (R q 1 c j fun a c=>E (T (V (Xr ?_)))));cases f;refine N (v:=_) c j ⟨_,_,_,j,d.nil,j,j⟩
  replace f:=cf a0 f;refine K (T (S (S (G (R q 1 c j fun a c=>E (T ?_))))));obtain ⟨bq,o,bn⟩:=bd f
  refine X c d (fun e L a' w'=>∃ bt am,bq = .go bt∧m.le am∧Env a' 77 []∧Inv af m [] am L w') ?_ ?_;rotate_left
  · rintro a w ⟨bt,am,rfl,cw,c,d⟩;have f:=Lg bn;refine T (S (G (R q 1 c j fun a c=>E (T (V ?_)))));cases f
    refine N (v:=_) c j ⟨_,_,_,j,d.nil,j,j⟩
  
  refine O (Q c d (fun e L n' a' w'=>∃ i162 i bs n,n'=List.length i∧i162≤a2.length∧a2.drop i162=i∧forL (ref06_SameFroms.b0 k s_ref06_SameExprs s_ref06_SameExpr s_ref06_SameQueries s_ref06_SameQuery s_ref06_SameFroms br) i162 i bs=some bq∧m.le n∧Env a' 77 (sl e [0,1] [(5,i_ (i162:Int))])∧Inv af m [] n L w') _ ⟨0,_,_,m,j,Nat.zero_le _,j,o,rf,c.kp j,d⟩ ?_)
  rintro cx a w ⟨i162,i,bs,n,rfl,ch,ac,o,ad,c,d⟩;rcases i with _ | ⟨l,i⟩
  · obtain rfl:=Fn o;have a1:=Do ac ch;refine S (S (G (R q 4 c j fun a c=>E (T ?_))));have c:=c.tr (t:=16) j (decide_eq_false (by omega))
    refine Fa c j (Ex (Xe (Xe (Xh (T (⟨_,n,j,ad,c.kp j,d⟩))))))
  obtain ⟨c0,f,o⟩:=Fs o;obtain ⟨ci,ac,a1⟩:=Dc ac;unfold ref06_SameFroms.b0 at f;refine S (S (G (R q 4 c j fun a c=>E (T ?_))))
  have c:=c.tr (t:=16) j (decide_eq_true (by omega));refine Tr c j (K (T (S (O (S ?_)))));obtain ⟨g,f,b7⟩:=bd f
  refine X c d (fun e L a' w'=>∃ h an ao ag ar ah au ai av aj aw ak ax al ay,n.le h∧Env a' 77 (sl e [0,1,5] [(6,(P an)),(7,(P ao))])∧Inv af m [] h [.blk an [i_ l.Kind,.string l.Table,.bool l.Visible,.string l.As,.slice ag g.1.length ar,.slice ah g.2.1.length au,.slice ai g.2.2.1.length av] 148,.blk ao [i_ g.2.2.2.1,.string g.2.2.2.2.1,.bool g.2.2.2.2.2.1,.string g.2.2.2.2.2.2.1,.slice aj g.2.2.2.2.2.2.2.1.length aw,.slice ak g.2.2.2.2.2.2.2.2.1.length ax,.slice al g.2.2.2.2.2.2.2.2.2.length ay] 148] w'∧Sl h ag ar 10 (g.1.map TQuery.d)∧Sl h ah au 7 (g.2.1.map TFrom.d)∧Sl h ai av 6 (g.2.2.1.map TExpr.d)∧Sl h aj aw 10 (g.2.2.2.2.2.2.2.1.map TQuery.d)∧Sl h ak ax 7 (g.2.2.2.2.2.2.2.2.1.map TFrom.d)∧Sl h al ay 6 (g.2.2.2.2.2.2.2.2.2.map TExpr.d)) ?_ ?_
  · obtain ⟨c2,bo,f⟩:=bd f
    refine Mx [] [11] (.step 0 0 (.step 1 0 (.step 2 0 (.step 3 1 (.step 4 0 (.step 5 0 (.step 6 0 (.step 7 1 (.or 8 2 (.step 9 2 (.step 10 2 (.step 11 3 .nil))) (.step 9 2 (.step 8 2 (.step 10 2 (.step 11 3 .nil))))))))))))) mixed (by kernel_rfl) d (by decide) j fun w d hS=>H q 2 c j fun a c=>?_
    obtain ⟨cq,cy,cs,cb,b9,b5⟩:=Sa (bk.m ad) (Int.natCast_nonneg _) (natIdx ci);obtain ⟨a3,a9,a4,ba,a5,bb,rfl,bg,bh,bi⟩:=TFrom.inv.1 b9
    refine Dr c j j (I q cb j j j) j fun a c=>Dd hS c j j (Rw fun _=>(Fg q b5 0 j j j j)) j fun a c=>H q 2 c j fun a c=>?_
    obtain ⟨cr,cz,cs,cc,ca,b6⟩:=Sa (b4.m ad) (Go bo).1 (Go bo).2;obtain ⟨a6,bc,a7,be,a8,bf,rfl,bj,bl,bm⟩:=TFrom.inv.1 ca
    refine Dr c j j (I q cc j j j) j fun a c=>Dd hS c j j (Rw fun _=>(Fg q b6 0 j j j j)) j fun a c=>d_or j ?_ ?_
    ·
      refine A d c j z_148 j j fun a w ap c d=>d_nextoE (d.sw [] (by decide) j rf) fun hS=>Df j (A d c j z_148 j j fun a w aq c d=>De (d.sw [] (by decide) j rf) fun hS=>Df j (W q 1 d c j j j j j j j j j j fun a w c d=>De (d.sw [] (by decide) j rf) fun hS=>Dl j (W q 0 d c j j j j j j j j j j fun a w c d=>Dn (Dz (T ?_)))))
      cases f;exact ⟨n,ap,aq,a3,a9,a4,ba,a5,bb,a6,bc,a7,be,a8,bf,rf,c.kp j,(d.pick [1,0] (by decide) j),bg,bh,bi,bj,bl,bm⟩
    
    refine Df j (A d c j z_148 j j fun a w aq c d=>De (d.sw [] (by decide) j rf) fun hS=>Df j (A d c j z_148 j j fun a w ap c d=>De (d.sw [] (by decide) j rf) fun hS=>Df j (W q 0 d c j j j j j j j j j j fun a w c d=>De (d.sw [] (by decide) j rf) fun hS=>Dl j (W q 1 d c j j j j j j j j j j fun a w c d=>Dn (Dz (T ?_))))))
    cases f;exact ⟨n,ap,aq,a3,a9,a4,ba,a5,bb,a6,bc,a7,be,a8,bf,rf,c.kp j,d,bg,bh,bi,bj,bl,bm⟩
  rintro a w ⟨h,an,ao,ag,ar,ah,au,ai,av,aj,aw,ak,ax,al,ay,cd,c,d,bx,bz,b0,b1,b2,b3⟩;have f:=b7;refine T (S ?_)
  obtain ⟨bp,f,b8⟩:=bd f;refine X c d (fun e L a' w'=>∃ ab,h.le ab∧Env a' 77 (sl e [0,1,5] [(76,.bool bp)])∧Inv af m [] ab [] w') ?_ ?_;rotate_left
  · rintro a w ⟨ab,ce,c,d⟩;have f:=b8;refine T (Cc (b:=bp) c j (fun az=>?_) (fun az=>?_))
    · replace f:=ct az f;refine S (G (R q 1 c j fun a c=>E (T (V (Xb (Xr (Xr (Xb (Xr (Xr ?_))))))))));cases f;obtain rfl:=Nr o;have f:=Le bn;cases f
      refine N (v:=_) c j ⟨_,_,_,j,d.nil,j,j⟩
    replace f:=cf az f;refine K (xB (T (G (R q 3 c j fun a c=>E (T ?_)))));cases f;have c:=c.setI (t:=5) j (Wc a1 (Ln bk))
    exact ⟨i.length,Nat.lt_succ_self _,i162 + 1,i,_,ab,j,a1,ac,o,((ad.t cd).t ce),c.kp j,d⟩
  
  refine G (R q 1 c j fun a c=>L d c j (B q 0 j j j j) j fun a c=>R q 1 c j fun a c=>L d c j (B q 1 j j j j) j fun a c=>R q 2 c j fun a c=>?_)
  rcases Bo (!decide (l.Kind=g.2.2.2.1)) with s | s
  · replace f:=ct s f;have c:=c.tr (t:=32) j s;refine R q 44 c j fun a c=>E (T ?_);cases f;exact ⟨h,rf,c.kp j,(d.dropN 2 j)⟩
  replace f:=cf s f;have c:=c.tr (t:=32) j s
  refine R q 1 c j fun a c=>L d c j (B q 0 j j j j) j fun a c=>R q 1 c j fun a c=>L d c j (B q 1 j j j j) j fun a c=>R q 3 c j fun a c=>?_
  rcases Bo (!decide (l.Table=g.2.2.2.2.1)) with u | u
  · replace f:=ct u f;have c:=c.tr (t:=39) j u;refine R q 37 c j fun a c=>E (T ?_);cases f;exact ⟨h,rf,c.kp j,(d.dropN 2 j)⟩
  replace f:=cf u f;have c:=c.tr (t:=39) j u
  refine R q 1 c j fun a c=>L d c j (B q 0 j j j j) j fun a c=>R q 1 c j fun a c=>L d c j (B q 1 j j j j) j fun a c=>L d c j (f_bne ub_4 j j) j fun a c=>R q 2 c j fun a c=>?_
  rcases Bo (!(l.Visible == g.2.2.2.2.2.1)) with x | x
  · replace f:=ct x f;have c:=c.tr (t:=46) j x;refine R q 30 c j fun a c=>E (T ?_);cases f;exact ⟨h,rf,c.kp j,(d.dropN 2 j)⟩
  replace f:=cf x f;have c:=c.tr (t:=46) j x
  refine R q 1 c j fun a c=>L d c j (B q 0 j j j j) j fun a c=>R q 1 c j fun a c=>L d c j (B q 1 j j j j) j fun a c=>R q 3 c j fun a c=>?_
  rcases Bo (!decide (l.As=g.2.2.2.2.2.2.1)) with y | y
  · replace f:=ct y f;have c:=c.tr (t:=53) j y;refine R q 23 c j fun a c=>E (T ?_);cases f;exact ⟨h,rf,c.kp j,(d.dropN 2 j)⟩
  replace f:=cf y f;have c:=c.tr (t:=53) j y
  refine R q 1 c j fun a c=>L d c j (B q 0 j j j j) j fun a c=>R q 1 c j fun a c=>L d c j (B q 1 j j j j) j fun a c=>?_
  obtain ⟨cm,cj,f⟩:=bd f;refine J cl_58 d c j j (hs_ref06_SameQueries cj d.pass0 bx b1) j ?_;rintro a w _ bu _ ⟨rfl,rfl⟩ p d c;refine R q 3 c j fun a c=>?_
  rcases Bo (!cm) with z | z
  · replace f:=ct z f;have c:=c.tr (t:=61) j z;refine R q 15 c j fun a c=>E (T ?_);cases f;exact ⟨bu,p,c.kp j,(d.dropN 2 j)⟩
  replace f:=cf z f;have c:=c.tr (t:=61) j z
  refine R q 1 c j fun a c=>L d c j (B q 0 j j j j) j fun a c=>R q 1 c j fun a c=>L d c j (B q 1 j j j j) j fun a c=>?_
  obtain ⟨cn,ck,f⟩:=bd f;refine J cl_82 d c j j (hs_ref06_SameFroms ck d.pass0 (bz.m p) (b2.m p)) j ?_;rintro a w _ bv _ ⟨rfl,rfl⟩ ae d c
  refine R q 3 c j fun a c=>?_;rcases Bo (!cn) with aa | aa
  · replace f:=ct aa f;have c:=c.tr (t:=69) j aa;refine R q 7 c j fun a c=>E (T ?_);cases f;exact ⟨bv,(p.t ae),c.kp j,(d.dropN 2 j)⟩
  replace f:=cf aa f;have c:=c.tr (t:=69) j aa
  refine R q 1 c j fun a c=>L d c j (B q 0 j j j j) j fun a c=>R q 1 c j fun a c=>L d c j (B q 1 j j j j) j fun a c=>?_
  obtain ⟨c1,cl,f⟩:=bd f;refine J cl_20 d c j j (hs_ref06_SameExprs cl d.pass0 (b0.m (p.t ae)) (b3.m (p.t ae))) j ?_;rintro a w _ bw _ ⟨rfl,rfl⟩ cg d c
  refine R q 2 c j fun a c=>E (T ?_);cases f;exact ⟨bw,((p.t ae).t cg),c.kp j,(d.dropN 2 j)⟩

theorem ref06_SameExprs.ok_all:∀ k,ref06_SameExprs.C (ref06_SameExprs k)∧ref06_SameExpr.C (ref06_SameExpr k)∧ref06_SameQueries.C (ref06_SameQueries k)∧ref06_SameQuery.C (ref06_SameQuery k)∧ref06_SameFroms.C (ref06_SameFroms k)
  | 0=>⟨(by intro _ _ _ h;cases h),(by intro _ _ _ h;cases h),(by intro _ _ _ h;cases h),(by intro _ _ _ h;cases h),(by intro _ _ _ h;cases h)⟩
  | k + 1=>by
    have h:=ref06_SameExprs.ok_all k
    exact ⟨ref06_SameExprs.F_ok k (ref06_SameExprs k) (ref06_SameExpr k) (ref06_SameQueries k) (ref06_SameQuery k) (ref06_SameFroms k) h.1 h.2.1 h.2.2.1 h.2.2.2.1 h.2.2.2.2,ref06_SameExpr.F_ok k (ref06_SameExprs k) (ref06_SameExpr k) (ref06_SameQueries k) (ref06_SameQuery k) (ref06_SameFroms k) h.1 h.2.1 h.2.2.1 h.2.2.2.1 h.2.2.2.2,ref06_SameQueries.F_ok k (ref06_SameExprs k) (ref06_SameExpr k) (ref06_SameQueries k) (ref06_SameQuery k) (ref06_SameFroms k) h.1 h.2.1 h.2.2.1 h.2.2.2.1 h.2.2.2.2,ref06_SameQuery.F_ok k (ref06_SameExprs k) (ref06_SameExpr k) (ref06_SameQueries k) (ref06_SameQuery k) (ref06_SameFroms k) h.1 h.2.1 h.2.2.1 h.2.2.2.1 h.2.2.2.2,ref06_SameFroms.F_ok k (ref06_SameExprs k) (ref06_SameExpr k) (ref06_SameQueries k) (ref06_SameQuery k) (ref06_SameFroms k) h.1 h.2.1 h.2.2.1 h.2.2.2.1 h.2.2.2.2⟩

theorem ref06_SameExprs.ok (k:Nat):ref06_SameExprs.C (ref06_SameExprs k):=(ref06_SameExprs.ok_all k).1

theorem ref06_SameExpr.ok (k:Nat):ref06_SameExpr.C (ref06_SameExpr k):=(ref06_SameExprs.ok_all k).2.1

theorem ref06_SameQueries.ok (k:Nat):ref06_SameQueries.C (ref06_SameQueries k):=(ref06_SameExprs.ok_all k).2.2.1

theorem ref06_SameQuery.ok (k:Nat):ref06_SameQuery.C (ref06_SameQuery k):=(ref06_SameExprs.ok_all k).2.2.2.1

theorem ref06_SameFroms.ok (k:Nat):ref06_SameFroms.C (ref06_SameFroms k):=(ref06_SameExprs.ok_all k).2.2.2.2

theorem cl_7:Callable Tryz.prog 7:=⟨_,Tryz.func7,by kernel_rfl,by kernel_rfl⟩

def ref08_SameTables.C (s:(List TRelation)→(List TRelation)→Option Bool):Prop:=∀ {d e r},s d e=some r→∀ {c b f h g i},Inv c b [] b [] c→(Sl b f h 6 (d.map TRelation.d))→(Sl b g i 6 (e.map TRelation.d))→Calls Tryz.prog 7 #[.slice f d.length h,.slice g e.length i] c (Ret c b [] fun G' L' v=>L'=[]∧v = .bool r)

theorem ref08_SameTables.ok (k:Nat):ref08_SameTables.C (ref08_SameTables k):=by
  intro bc b5 r f y i c9 df da dg d br ci
  unfold ref08_SameTables at f
  refine Ci 90 Tryz.func7 j j j fun a c=>?_
  
  refine S (G (R q 1 c j fun a c=>E (T (S (S (G (R q 5 c j fun a c=>E (T (Cc (b:=!decide ((bc.length:Int)=(b5.length:Int))) c j (fun a8=>?_) (fun a8=>?_))))))))))
  · replace f:=ct a8 f;refine S (G (R q 1 c j fun a c=>E (T (V (Xr ?_)))));cases f;refine N (v:=_) c j ⟨_,_,_,j,d.nil,j,j⟩
  replace f:=cf a8 f;refine K (T (S (S (G (R q 1 c j fun a c=>E (T ?_))))));obtain ⟨b3,l,a5⟩:=bd f
  refine X c d (fun e L a' w'=>∃ b7 au,b3 = .go b7∧i.le au∧Env a' 90 []∧Inv y i [] au L w') ?_ ?_;rotate_left
  · rintro a w ⟨b7,au,rfl,dh,c,d⟩;have f:=Lg a5;refine T (S (G (R q 1 c j fun a c=>E (T (V ?_)))));cases f
    refine N (v:=_) c j ⟨_,_,_,j,d.nil,j,j⟩
  
  refine O (Q c d (fun e L n' a' w'=>∃ i233 m b6 s,n'=List.length m∧i233≤bc.length∧bc.drop i233=m∧forL (ref08_SameTables.b0 k b5) i233 m b6=some b3∧i.le s∧Env a' 90 (sl e [0,1] [(5,i_ (i233:Int))])∧Inv y i [] s L w') _ ⟨0,_,_,i,j,Nat.zero_le _,j,l,rf,c.kp j,d⟩ ?_)
  rintro dj a w ⟨i233,m,b6,s,rfl,c2,ah,l,aj,c,d⟩;rcases m with _ | ⟨z,m⟩
  · obtain rfl:=Fn l;have ba:=Do ah c2;refine S (S (G (R q 4 c j fun a c=>E (T ?_))));have c:=c.tr (t:=17) j (decide_eq_false (by omega))
    refine Fa c j (Ex (Xe (Xe (Xh (T (⟨_,s,j,aj,c.kp j,d⟩))))))
  obtain ⟨dq,f,l⟩:=Fs l;obtain ⟨c4,ah,ba⟩:=Dc ah;unfold ref08_SameTables.b0 at f;refine S (S (G (R q 4 c j fun a c=>E (T ?_))))
  have c:=c.tr (t:=17) j (decide_eq_true (by omega));refine Tr c j (K (T (S (O (S ?_)))));obtain ⟨g,f,cn⟩:=bd f
  refine X c d (fun e L a' w'=>∃ h av aw am az an a0 ao a1 ap a2 aq a3 ar a4,s.le h∧Env a' 90 (sl e [0,1,5] [(6,(P av)),(7,(P aw))])∧Inv y i [] h [.blk av [.string z.Name,i_ z.Rows,.slice am g.1.length az,.slice an g.2.1.length a0,i_ z.Hide,.slice ao g.2.2.1.length a1] 51,.blk aw [.string g.2.2.2.1,i_ g.2.2.2.2.1,.slice ap g.2.2.2.2.2.1.length a2,.slice aq g.2.2.2.2.2.2.1.length a3,i_ g.2.2.2.2.2.2.2.1,.slice ar g.2.2.2.2.2.2.2.2.length a4] 51] w'∧Sl h am az 4 (g.1.map TField.d)∧Sl h an a0 1 (g.2.1.map di)∧Sl h ao a1 6 (g.2.2.1.map TExpr.d)∧Sl h ap a2 4 (g.2.2.2.2.2.1.map TField.d)∧Sl h aq a3 1 (g.2.2.2.2.2.2.1.map di)∧Sl h ar a4 6 (g.2.2.2.2.2.2.2.2.map TExpr.d)) ?_ ?_
  · obtain ⟨dt,b1,f⟩:=bd f
    refine Mx [] [11] (.step 0 0 (.step 1 0 (.step 2 0 (.step 3 1 (.step 4 0 (.step 5 0 (.step 6 0 (.step 7 1 (.or 8 2 (.step 9 2 (.step 10 2 (.step 11 3 .nil))) (.step 9 2 (.step 8 2 (.step 10 2 (.step 11 3 .nil))))))))))))) mixed (by kernel_rfl) d (by decide) j fun w d hS=>H q 2 c j fun a c=>?_
    obtain ⟨dd,dn,cs,cx,cr,cl⟩:=Sa (br.m aj) (Int.natCast_nonneg _) (natIdx c4);obtain ⟨be,bk,bf,bl,bg,bm,rfl,bs,bt,bu⟩:=TRelation.inv.1 cr
    refine Dr c j j (I q cx j j j) j fun a c=>Dd hS c j j (Rw fun _=>(Fg q cl 0 j j j j)) j fun a c=>H q 2 c j fun a c=>?_
    obtain ⟨de,dp,cs,cy,cu,cm⟩:=Sa (ci.m aj) (Go b1).1 (Go b1).2;obtain ⟨bh,bn,bi,bo,bj,bp,rfl,bv,bw,bx⟩:=TRelation.inv.1 cu
    refine Dr c j j (I q cy j j j) j fun a c=>Dd hS c j j (Rw fun _=>(Fg q cm 0 j j j j)) j fun a c=>d_or j ?_ ?_
    ·
      refine A d c j z_51 j j fun a w ax c d=>d_nextoE (d.sw [] (by decide) j rf) fun hS=>Df j (A d c j z_51 j j fun a w ay c d=>De (d.sw [] (by decide) j rf) fun hS=>Df j (W q 1 d c j j j j j j j j j j fun a w c d=>De (d.sw [] (by decide) j rf) fun hS=>Dl j (W q 0 d c j j j j j j j j j j fun a w c d=>Dn (Dz (T ?_)))))
      cases f;exact ⟨s,ax,ay,be,bk,bf,bl,bg,bm,bh,bn,bi,bo,bj,bp,rf,c.kp j,(d.pick [1,0] (by decide) j),bs,bt,bu,bv,bw,bx⟩
    
    refine Df j (A d c j z_51 j j fun a w ay c d=>De (d.sw [] (by decide) j rf) fun hS=>Df j (A d c j z_51 j j fun a w ax c d=>De (d.sw [] (by decide) j rf) fun hS=>Df j (W q 0 d c j j j j j j j j j j fun a w c d=>De (d.sw [] (by decide) j rf) fun hS=>Dl j (W q 1 d c j j j j j j j j j j fun a w c d=>Dn (Dz (T ?_))))))
    cases f;exact ⟨s,ax,ay,be,bk,bf,bl,bg,bm,bh,bn,bi,bo,bj,bp,rf,c.kp j,d,bs,bt,bu,bv,bw,bx⟩
  rintro a w ⟨h,av,aw,am,az,an,a0,ao,a1,ap,a2,aq,a3,ar,a4,cz,c,d,bq,cc,cd,ce,cg,ch⟩;have f:=cn;refine T (S (S ?_))
  obtain ⟨b2,f,co⟩:=bd f;refine X c d (fun e L a' w'=>∃ x,h.le x∧Env a' 90 (sl e [0,1,5,6,7] [(71,.bool b2)])∧Inv y i [] x L w') ?_ ?_
  ·
    refine G (R q 1 c j fun a c=>L d c j (B q 0 j j j j) j fun a c=>R q 1 c j fun a c=>L d c j (B q 1 j j j j) j fun a c=>R q 2 c j fun a c=>?_)
    rcases Bo (!decide (z.Name=g.2.2.2.1)) with ab | ab
    · replace f:=ct ab f;have c:=c.tr (t:=33) j ab;refine R q 38 c j fun a c=>E (T ?_);cases f;exact ⟨h,rf,c.kp j,d⟩
    replace f:=cf ab f;have c:=c.tr (t:=33) j ab
    refine R q 1 c j fun a c=>L d c j (B q 0 j j j j) j fun a c=>R q 1 c j fun a c=>L d c j (B q 1 j j j j) j fun a c=>R q 3 c j fun a c=>?_
    rcases Bo (!decide (z.Rows=g.2.2.2.2.1)) with ac | ac
    · replace f:=ct ac f;have c:=c.tr (t:=40) j ac;refine R q 31 c j fun a c=>E (T ?_);cases f;exact ⟨h,rf,c.kp j,d⟩
    replace f:=cf ac f;have c:=c.tr (t:=40) j ac
    refine R q 1 c j fun a c=>L d c j (B q 0 j j j j) j fun a c=>R q 1 c j fun a c=>L d c j (B q 1 j j j j) j fun a c=>R q 3 c j fun a c=>?_
    rcases Bo (!decide (z.Hide=g.2.2.2.2.2.2.2.1)) with ad | ad
    · replace f:=ct ad f;have c:=c.tr (t:=47) j ad;refine R q 24 c j fun a c=>E (T ?_);cases f;exact ⟨h,rf,c.kp j,d⟩
    replace f:=cf ad f;have c:=c.tr (t:=47) j ad
    refine R q 1 c j fun a c=>L d c j (B q 0 j j j j) j fun a c=>R q 2 c j fun a c=>L d c j (B q 1 j j j j) j fun a c=>R q 4 c j fun a c=>?_
    rcases Bo (!decide ((g.1.length:Int)=(g.2.2.2.2.2.1.length:Int))) with ae | ae
    · replace f:=ct ae f;have c:=c.tr (t:=56) j ae;refine R q 15 c j fun a c=>E (T ?_);cases f;exact ⟨h,rf,c.kp j,d⟩
    replace f:=cf ae f;have c:=c.tr (t:=56) j ae
    refine R q 1 c j fun a c=>L d c j (B q 0 j j j j) j fun a c=>R q 1 c j fun a c=>L d c j (B q 1 j j j j) j fun a c=>?_
    obtain ⟨c8,c6,f⟩:=bd f;refine J cl_19 d c j j ((ref03_Ints.ok k) c6 d.pass0 cc cg) j ?_;rintro a w _ ca _ ⟨rfl,rfl⟩ al d c;refine R q 3 c j fun a c=>?_
    rcases Bo (!c8) with af | af
    · replace f:=ct af f;have c:=c.tr (t:=64) j af;refine R q 7 c j fun a c=>E (T ?_);cases f;exact ⟨ca,al,c.kp j,d⟩
    replace f:=cf af f;have c:=c.tr (t:=64) j af
    refine R q 1 c j fun a c=>L d c j (B q 0 j j j j) j fun a c=>R q 1 c j fun a c=>L d c j (B q 1 j j j j) j fun a c=>?_
    obtain ⟨ds,c7,f⟩:=bd f;refine J cl_20 d c j j ((ref06_SameExprs.ok k) c7 d.pass0 (cd.m al) (ch.m al)) j ?_;rintro a w _ cb _ ⟨rfl,rfl⟩ c1 d c
    refine R q 2 c j fun a c=>E (T ?_);cases f;exact ⟨cb,(al.t c1),c.kp j,d⟩
  rintro a w ⟨x,a9,c,d⟩;have f:=co;refine T (Cc (b:=b2) c j (fun a7=>?_) (fun a7=>?_))
  · replace f:=ct a7 f;refine S (G (R q 1 c j fun a c=>E (T (V (Xr (Xb (Xr (Xr (Xb (Xr (Xr ?_)))))))))));cases f;obtain rfl:=Nr l;have f:=Le a5;cases f
    refine N (v:=_) c j ⟨_,_,_,j,d.nil,j,j⟩
  replace f:=cf a7 f;refine K (T (S (G (R q 1 c j fun a c=>E (T ?_)))));obtain ⟨b4,u,bz⟩:=bd f
  refine X c d (fun e L a' w'=>∃ b9 ag,b4 = .go b9∧x.le ag∧Env a' 90 (sl e [0,1,5] [])∧Inv y i [] ag L w') ?_ ?_;rotate_left
  · rintro a w ⟨b9,ag,rfl,c0,c,d⟩;have f:=Lg bz;refine xB (T (G (R q 3 c j fun a c=>E (T ?_))));cases f;have c:=c.setI (t:=5) j (Wc ba (Ln br))
    exact ⟨m.length,Nat.lt_succ_self _,i233 + 1,m,_,ag,j,ba,ah,l,(((aj.t cz).t a9).t c0),c.kp j,(d.dropN 2 j)⟩
  
  refine O (Q c d (fun e L n' a' w'=>∃ i366 n b8 aa,n'=List.length n∧i366≤g.1.length∧g.1.drop i366=n∧forL (ref08_SameTables.b1 k g) i366 n b8=some b4∧x.le aa∧Env a' 90 (sl e [0,1,5,6,7] [(8,i_ (i366:Int))])∧Inv y i [] aa L w') _ ⟨0,_,_,x,j,Nat.zero_le _,j,u,rf,c.kp j,d⟩ ?_)
  rintro dk a w ⟨i366,n,b8,aa,rfl,c3,ai,u,ak,c,d⟩;rcases n with _ | ⟨o,n⟩
  · obtain rfl:=Fn u;have bb:=Do ai c3
    refine S (S (G (R q 2 c j fun a c=>L d c j (B q 0 j j j j) j fun a c=>R q 2 c j fun a c=>E (T ?_))))
    have c:=c.tr (t:=76) j (decide_eq_false (by omega));refine Fa c j (Ex (Xe (Xe (Xh (T (⟨_,aa,j,ak,c.kp j,d⟩))))))
  obtain ⟨dr,f,u⟩:=Fs u;obtain ⟨c5,ai,bb⟩:=Dc ai;unfold ref08_SameTables.b1 at f
  refine S (S (G (R q 2 c j fun a c=>L d c j (B q 0 j j j j) j fun a c=>R q 2 c j fun a c=>E (T ?_))))
  have c:=c.tr (t:=76) j (decide_eq_true (by omega))
  refine Tr c j (K (T (S (O (S (Cd mixed (by kernel_rfl) d (Y q 1 c j fun a c=>Z c j (B q 0 j j j j) j fun a c=>Y q 1 c j fun a c=>?_)))))))
  obtain ⟨db,dl,cs,cv,cp,cj⟩:=Sa (bq.m (a9.t ak)) (Int.natCast_nonneg _) (natIdx c5);obtain rfl:=TField.inv.1 cp
  refine Z c j (I q cv j j j) j fun a c=>Z c j (Fg q cj 0 j j j j) j fun a c=>Y q 1 c j fun a c=>Z c j (B q 1 j j j j) j fun a c=>Y q 1 c j fun a c=>?_
  obtain ⟨p,b0,f⟩:=bd f;obtain ⟨dc,dm,cs,cw,cq,ck⟩:=Sa (ce.m (a9.t ak)) (Go b0).1 (Go b0).2;obtain rfl:=TField.inv.1 cq
  refine Z c j (I q cw j j j) j fun a c=>Z c j (Fg q ck 0 j j j j) j fun a c=>Z c j (f_nes q se_68 [.txt o.Name p.Name,.num .i64 o.Type_ p.Type_,.flg o.Null p.Null,.num .i64 o.Level p.Level] j j j) j fun a c=>Qe ?_
  intro w d;refine T (Cc (b:=(!(decide (o.Name=p.Name) && (decide (o.Type_=p.Type_) && ((o.Null == p.Null) && decide (o.Level=p.Level)))))) c j (fun a6=>?_) (fun a6=>?_))
  rotate_left
  · replace f:=cf a6 f;refine K (xB (T (G (R q 3 c j fun a c=>E (T ?_)))));cases f;have c:=c.setI (t:=8) j (Wc bb (Ln bq))
    exact ⟨n.length,Nat.lt_succ_self _,i366 + 1,n,_,aa,j,bb,ai,u,ak,c.kp j,d⟩
  replace f:=ct a6 f;refine S (G (R q 1 c j fun a c=>E (T (V (Xb (Xr (Xr (Xb (Xr (Xb (Xr (Xr (Xb (Xr (Xr ?_)))))))))))))));cases f;obtain rfl:=Nr u
  have f:=Le bz;cases f;obtain rfl:=Nr l;have f:=Le a5;cases f;refine N (v:=_) c j ⟨_,_,_,j,d.nil,j,j⟩

theorem cl_11:Callable Tryz.prog 11:=⟨_,Tryz.func11,by kernel_rfl,by kernel_rfl⟩

def schema_Catalog_Principals.C (s:(Option Tschema_Catalog)→Option (List TNamed)):Prop:=∀ {g r},s g=some r→∀ {c b e},Inv c b [] b [] c→(Pt b e 58 Tschema_Catalog.d g)→Calls Tryz.prog 11 #[.pointer e] c (Ret c b [] fun G' L' v=>L'=[]∧∃ d f,v = .slice d r.length f∧Sl G' d f 2 (r.map TNamed.d))

theorem schema_Catalog_Principals.ok (k:Nat):schema_Catalog_Principals.C (schema_Catalog_Principals k):=by
  intro t r d an ac u e h
  unfold schema_Catalog_Principals at d
  refine Ci 10 Tryz.func11 j j j fun a c=>?_
  
  refine S (G (R q 1 c j fun a c=>E (T (S (S (G (R q 1 c j fun a c=>L e c j (f_pnil up_29 h j j) j fun a c=>E (T (Cc (b:=t.isNone) c j (fun f=>?_) (fun f=>?_))))))))))
  · replace d:=ct f d;refine S (G (R q 1 c j fun a c=>E (T (V (Xr ?_)))));cases d
    refine N (v:=_) c j ⟨_,_,_,j,e.nil,j,none,0,j,(Sn _ _ _ _ (Nat.zero_le _))⟩
  replace d:=cf f d;refine K (T (S (G (R q 1 c j fun a c=>?_))));rcases (h).cases with ⟨g,rfl⟩ | ⟨ao,ae,cs,g,rfl,p,o⟩
  · cases op_n g d
  replace d:=op_s g d;obtain ⟨x,y,af,z,aa,ag,ab,ah,rfl,ai,aj,ak,al,m⟩:=Tschema_Catalog.inv.1 p
  refine R q 2 c j fun a c=>L e c j (Fg q o 4 j j j j) j fun a c=>?_;obtain ⟨ap,s,d⟩:=bd d
  refine J cl_25 e c j j ((slices_Clone_api_Named_api_Named.ok k) s e.pass0 m) j ?_;rintro a w _ ad _ ⟨rfl,i,l,rfl,n⟩ am e c;refine R q 1 c j fun a c=>E (T (V ?_))
  cases d;refine N (v:=_) c j ⟨_,_,_,j,e.nil,j,i,l,j,n⟩

theorem cl_12:Callable Tryz.prog 12:=⟨_,Tryz.func12,by kernel_rfl,by kernel_rfl⟩

def schema_Catalog_Principal.C (s:(Option Tschema_Catalog)→ByteArray→Option (Int × Bool)):Prop:=∀ {e f r},s e f=some r→∀ {c b d},Inv c b [] b [] c→(Pt b d 58 Tschema_Catalog.d e)→Calls Tryz.prog 12 #[.pointer d,.string f] c (Ret c b [] fun G' L' v=>L'=[]∧v = .tuple ⟨[i_ r.1,.bool r.2]⟩)

theorem schema_Catalog_Principal.ok (k:Nat):schema_Catalog_Principal.C (schema_Catalog_Principal k):=by
  intro u x r d y m i c f
  unfold schema_Catalog_Principal at d
  refine Ci 12 Tryz.func12 j j j fun a b=>?_
  refine S (G (R q 2 b j fun a b=>E (T (S (G (R q 1 b j fun a b=>?_))))));obtain ⟨aa,g,d⟩:=bd d
  refine J cl_11 c b j j ((schema_Catalog_Principals.ok k) g c.pass0 f) j ?_;rintro a w _ n _ ⟨rfl,l,p,rfl,e⟩ s c b;refine R q 1 b j fun a b=>?_
  obtain ⟨z,h,d⟩:=bd d;refine J cl_26 c b j j ((schema_find.ok k) h c.pass0 e) j ?_;rintro a w _ o _ ⟨rfl,rfl⟩ t c b;refine R q 4 b j fun a b=>E (T (V ?_))
  cases d;refine N (v:=_) b j ⟨_,_,_,j,c.nil,j,j⟩

theorem cl_3:Callable Tryz.prog 3:=⟨_,Tryz.func3,by kernel_rfl,by kernel_rfl⟩

def law08_SchemaParts.C (s:TSchema→Int→Int→Option Bool):Prop:=∀ {e f g r},s e f g=some r→∀ {c b d},Inv c b [] b [] c→(Rep b e.d d)→Calls Tryz.prog 3 #[.agg ⟨d⟩,i_ f,i_ g] c (Ret c b [] fun G' L' v=>L'=[]∧v = .bool r)
end Go.Proofs.YtliaopbgkcdibaaGreat
