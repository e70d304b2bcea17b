/- The contracts: what the machine does at a call is what the plain function says. Written by mk.py. -/
import Derived.Test.YtknhbphhdfknaaaGreatDoorCgT3
set_option linter.unusedVariables false
set_option linter.unusedSimpArgs false
set_option maxRecDepth 100000
namespace Go.Proofs.YtknhbphhdfknaaaGreatDoor
open Go.RowKit
theorem schema_predicate_shape.F_ok (k:Nat) (s_schema_predicate_shape:Tschema_predicate→TExpr→Int→Option (Bool × Tschema_predicate)) (hs_schema_predicate_shape:schema_predicate_shape.C s_schema_predicate_shape):schema_predicate_shape.C (schema_predicate_shape.F k s_schema_predicate_shape):=by
  intro l h a8 r d ac p ab a1 au u4 m n o dq g bz z c0
  unfold schema_predicate_shape.F at d
  obtain ⟨cg,co,ch,cp,rfl,bx,dr⟩:=TExpr.inv.1 c0
  refine Ci 113 Tryz.func112 j j j fun a c=>?_
  refine S (G (s_box g c j j j j fun a w cn c g=>R q 1 c j fun a c=>E (T (S (S ?_)))));obtain ⟨b9,d,c1⟩:=bd d
  refine X c g (fun e L a' w'=>∃ s,p.le s∧Env a' 113 (sl e [0,2,4] [(19,.bool b9)])∧Inv ac p ab s L w') ?_ ?_
  · refine G (R q 3 c j fun a c=>?_);rcases Bo (decide ((40:Int) < a8)) with ar | ar
    · replace d:=ct ar d;have c:=c.tr (t:=14) j ar;refine R q 5 c j fun a c=>E (T ?_);cases d;exact ⟨p,rf,c.kp j,g⟩
    replace d:=cf ar d;have c:=c.tr (t:=14) j ar;refine R q 1 c j fun a c=>L g c j (B q 0 j j j j) j fun a c=>R q 3 c j fun a c=>E (T ?_)
    cases d;exact ⟨p,rf,c.kp j,g⟩
  rintro a w ⟨s,i,c,g⟩;have d:=c1;refine T (Cc (b:=b9) c j (fun bp=>?_) (fun bp=>?_))
  · replace d:=ct bp d;refine S (G (R q 1 c j fun a c=>E (T (V (Xr ?_)))));cases d
    refine N (v:=_) c j ⟨_,_,_,j,(g.pick [1,2] (by decide) j),m,n,o,j,j,(z.m i)⟩
  replace d:=cf bp d
  refine K (T (S (G (R q 1 c j fun a c=>E (T (S (S (G (R q 1 c j fun a c=>L g c j (B q 0 j j j j) j fun a c=>E (T (X c g (fun e L a' w'=>∃ ad,schema_predicate_shape.j1 k s_schema_predicate_shape h l a8 ad=some r∧∃ af aj am an,s.le af∧Env a' 113 (sl e [0,2,4] [(7,i_ ad.2)])∧Inv ac p ab af [nt L 0,.blk a1 [.string l.table_,.map au,u4,.slice aj ad.1.length am] 206,.row (.slice aj ad.1.length am) 3 1 ad.1.length an] w'∧RL af 1 (ad.1.map di) an) ?_ ?_)))))))))))
  rotate_left
  · rintro a w ⟨ad,d,af,aj,am,an,b5,c,g,b1⟩;unfold schema_predicate_shape.j1 at d
    refine T (S (S (G (R q 1 c j fun a c=>L g c j (B q 0 j j j j) j fun a c=>R q 3 c j fun a c=>E (T (Cc (b:=!decide ((h.Kids.length:Int)=ad.2)) c j (fun ba=>?_) (fun ba=>?_)))))))
    · replace d:=ct ba d;refine S (G (R q 1 c j fun a c=>E (T (V (Xr ?_)))));cases d
      refine N (v:=_) c j ⟨_,_,_,j,(g.pick [1,2] (by decide) j),aj,am,an,j,j,b1⟩
    replace d:=cf ba d;refine K (T (S (S (G (R q 1 c j fun a c=>L g c j (B q 0 j j j j) j fun a c=>R q 2 c j fun a c=>E (T ?_))))))
    obtain ⟨ce,ag,b0⟩:=bd d
    refine X c g (fun e L a' w'=>∃ ai ax aw a3 a5,ce = .go ai∧af.le ax∧Env a' 113 []∧Inv ac p ab ax [.blk a1 [.string l.table_,.map au,u4,.slice aw ai.length a3] 206,.row (.slice aw ai.length a3) 3 1 ai.length a5] w'∧RL ax 1 (ai.map di) a5) ?_ ?_
    rotate_left
    · rintro a w ⟨ai,ax,aw,a3,a5,rfl,ds,c,g,c2⟩;have d:=Lg b0;refine T (S (G (R q 1 c j fun a c=>E (T (V ?_)))));cases d
      refine N (v:=_) c j ⟨_,_,_,j,g,aw,a3,a5,j,j,c2⟩
    
    refine O (Q c g (fun e L n' a' w'=>∃ i314 ae ah ak av a2 a4,n'=List.length ae∧i314≤h.Kids.length∧h.Kids.drop i314=ae∧forL (schema_predicate_shape.b0 k s_schema_predicate_shape l a8) i314 ae ah=some ce∧af.le ak∧Env a' 113 (sl e [0,2,100,101] [(102,i_ (i314:Int))])∧Inv ac p ab ak [.blk a1 [.string l.table_,.map au,u4,.slice av ah.length a2] 206,.row (.slice av ah.length a2) 3 1 ah.length a4] w'∧RL ak 1 (ah.map di) a4) _ ⟨0,_,_,af,aj,am,an,j,Nat.zero_le _,j,ag,rf,c.kp j,(g.dropN 1 j),b1⟩ ?_)
    rintro dt a w ⟨i314,ae,ah,ak,av,a2,a4,rfl,dc,a6,ag,a7,c,g,b2⟩;rcases ae with _ | ⟨dw,ae⟩
    · obtain rfl:=Fn ag;have bs:=Do a6 dc;refine S (G (R q 1 c j fun a c=>E (T (S ?_))));have c:=c.tr (t:=103) j (decide_eq_false (by omega))
      refine Fa c j (Ex (Xe (Xe (Xh (T (⟨_,ak,av,a2,a4,j,a7,c.kp j,g,b2⟩))))))
    obtain ⟨dv,d,ag⟩:=Fs ag;obtain ⟨dg,a6,bs⟩:=Dc a6;unfold schema_predicate_shape.b0 at d;refine S (G (R q 1 c j fun a c=>E (T (S ?_))))
    have c:=c.tr (t:=103) j (decide_eq_true (by omega));refine Tr c j (K (T (S (O (S (G ?_))))))
    obtain ⟨dm,du,cs,c9,c3,cy⟩:=Sa (bx.m ((i.t b5).t a7)) (Int.natCast_nonneg _) (natIdx dg);obtain ⟨ci,cq,cj,cr,rfl,cw,cx⟩:=TExpr.inv.1 c3
    refine L g c j (I q c9 j j j) j fun a c=>L g c j (Fg q cy 0 j j j j) j fun a c=>A g c j z_145 j j fun a w dn c g=>W q 0 g c j j j j j j j j j j fun a w c g=>E (T (S (G (R q 1 c j fun a c=>L g c j (B q 0 j j j j) j fun a c=>R q 2 c j fun a c=>?_))))
    have g:=g.pick [1,2,0] (by decide) j;obtain ⟨dk,dh,d⟩:=bd d
    refine M 2 cl_112 g c j j (fun cz=>hs_schema_predicate_shape dh cz (bz.m ((i.t b5).t a7)) b2 (TExpr.inv.2 ⟨ci,cq,cj,cr,j,cw,cx⟩)) j ?_
    rintro a w _ cl _ ⟨bu,bv,bw,rfl,rfl,b3⟩ db g c;refine R q 1 c j fun a c=>E (T (Cc (b:=!dk.1) c j (fun a9=>?_) (fun a9=>?_)))
    · replace d:=ct a9 d;refine S (G (R q 1 c j fun a c=>E (T (V (Xb (Xr (Xr (Xb (Xr (Xr ?_))))))))));cases d;obtain rfl:=Nr ag;have d:=Le b0;cases d
      refine N (v:=_) c j ⟨_,_,_,j,(g.pick [0,1] (by decide) j),bu,bv,bw,j,j,b3⟩
    replace d:=cf a9 d;refine K (xB (T (G (R q 2 c j fun a c=>E (T ?_)))));cases d;have c:=c.setI (t:=102) j (Wc bs (Ln bx))
    exact ⟨ae.length,Nat.lt_succ_self _,i314 + 1,ae,_,cl,bu,bv,bw,j,bs,a6,ag,(a7.t db),c.kp j,(g.pick [0,1] (by decide) j),b3⟩
  
  refine O (S (O (S (X c g (fun e L a' w'=>∃ bt,schema_predicate_shape.j2 k s_schema_predicate_shape h l a8 bt=some r∧∃ ay,s.le ay∧Env a' 113 (sl e [0,2,4] [(7,i_ bt)])∧Inv ac p ab ay L w') ?_ ?_))))
  rotate_left
  · rintro a w ⟨bt,d,ay,b6,c,g⟩;unfold schema_predicate_shape.j2 at d
    refine T (S (G (R q 3 c j fun a c=>E (T (Ex (Xm j (Xe (Xh (T (⟨_,d,ay,m,n,o,b6,c.kp j,g,(z.m (i.t b6))⟩))))))))))
  
  refine O (S (O (S (O (S (O (S (O (S (O (S (O (S (S (S (G (R q 2 c j fun a c=>E (T (Cc (b:=decide (h.Kind=(2:Int))) c j (fun bo=>?_) (fun bo=>?_))))))))))))))))))))
  · replace d:=ct bo d;refine Ex (Xe (Xe (Xh (T (S (S ?_))))));obtain ⟨ca,d,c4⟩:=bd d
    refine X c g (fun e L a' w'=>∃ az,s.le az∧Env a' 113 (sl e [0,2,4,7] [(45,.bool ca)])∧Inv ac p ab az L w') ?_ ?_
    · refine G (R q 1 c j fun a c=>L g c j (B q 0 j j j j) j fun a c=>R q 2 c j fun a c=>?_);rcases Bo (decide (h.N < (0:Int))) with ao | ao
      · replace d:=ct ao d;have c:=c.tr (t:=41) j ao;refine R q 4 c j fun a c=>E (T ?_);cases d;exact ⟨s,rf,c.kp j,g⟩
      replace d:=cf ao d;have c:=c.tr (t:=41) j ao;refine R q 1 c j fun a c=>L g c j (B q 0 j j j j) j fun a c=>R q 2 c j fun a c=>E (T ?_)
      cases d;exact ⟨s,rf,c.kp j,g⟩
    rintro a w ⟨az,bq,c,g⟩;have d:=c4;refine T (Cc (b:=ca) c j (fun bb=>?_) (fun bb=>?_));rotate_left
    · replace d:=cf bb d
      refine K (T (Ex (Xm j (Xe (Xm j (Xe (Xm j (Xe (Xm j (Xe (Xm j (Xe (Xm j (Xe (Xe (Xm j (Xe (Xh (T (⟨_,d,az,m,n,o,bq,c.kp j,g,(z.m (i.t bq))⟩))))))))))))))))))))
    replace d:=ct bb d;refine S (G (R q 1 c j fun a c=>E (T (V (Xr (Xb (Xr (Xb (Xr (Xb (Xr (Xb (Xr (Xb (Xr (Xb (Xr (Xr (Xb (Xr (Xb (Xr (Xr ?_)))))))))))))))))))))))
    cases d;refine N (v:=_) c j ⟨_,_,_,j,(g.pick [1,2] (by decide) j),m,n,o,j,j,(z.m (i.t bq))⟩
  replace d:=cf bo d;refine K (T (S (S (G (R q 2 c j fun a c=>E (T (Cc (b:=decide (h.Kind=(4:Int))) c j (fun bn=>?_) (fun bn=>?_))))))))
  · replace d:=ct bn d
    refine Ex (Xe (Xe (Xm j (Xe (Xh (T (S (S (G (R q 1 c j fun a c=>L g c j (B q 0 j j j j) j fun a c=>R q 2 c j fun a c=>E (T (Cc (b:=decide ((1000:Int) < (h.S.size:Int))) c j (fun bc=>?_) (fun bc=>?_)))))))))))))
    rotate_left
    · replace d:=cf bc d
      refine K (T (Ex (Xm j (Xe (Xm j (Xe (Xm j (Xe (Xm j (Xe (Xm j (Xe (Xe (Xm j (Xe (Xh (T (⟨_,d,s,m,n,o,rf,c.kp j,g,(z.m i)⟩))))))))))))))))))
    replace d:=ct bc d;refine S (G (R q 1 c j fun a c=>E (T (V (Xr (Xb (Xr (Xb (Xr (Xb (Xr (Xb (Xr (Xb (Xr (Xr (Xb (Xr (Xb (Xr (Xr ?_)))))))))))))))))))));cases d
    refine N (v:=_) c j ⟨_,_,_,j,(g.pick [1,2] (by decide) j),m,n,o,j,j,(z.m i)⟩
  replace d:=cf bn d;refine K (T (S (S (S (G (R q 2 c j fun a c=>E (T ?_)))))));obtain ⟨cb,d,c5⟩:=bd d
  refine X c g (fun e L a' w'=>∃ u,s.le u∧Env a' 113 (sl e [0,2,4,7,21] [(26,.bool cb)])∧Inv ac p ab u L w') ?_ ?_
  · refine Cc (b:=decide (h.Kind=(1:Int))) c j (fun bm=>?_) (fun bm=>?_)
    · replace d:=ct bm d;refine K (T ?_);cases d;exact ⟨s,rf,c.kp j,g⟩
    replace d:=cf bm d;refine G (R q 2 c j fun a c=>E (T ?_));cases d;exact ⟨s,rf,c.kp j,g⟩
  rintro a w ⟨u,aa,c,g⟩;have d:=c5;refine T (Cc (b:=cb) c j (fun bl=>?_) (fun bl=>?_))
  · replace d:=ct bl d
    refine Ex (Xe (Xe (Xm j (Xe (Xm j (Xe (Xh (T (Ex (Xm j (Xe (Xm j (Xe (Xm j (Xe (Xm j (Xe (Xe (Xm j (Xe (Xh (T (⟨_,d,u,m,n,o,aa,c.kp j,g,(z.m (i.t aa))⟩)))))))))))))))))))))))
  replace d:=cf bl d;refine K (T (S (S (G (R q 2 c j fun a c=>E (T (Cc (b:=decide (h.Kind=(5:Int))) c j (fun bk=>?_) (fun bk=>?_))))))));rotate_left
  · replace d:=cf bk d;refine K (T (S (S (G (R q 2 c j fun a c=>E (T (Cc (b:=decide (h.Kind=(11:Int))) c j (fun bj=>?_) (fun bj=>?_))))))))
    · replace d:=ct bj d
      refine Ex (Xe (Xe (Xm j (Xe (Xm j (Xe (Xm j (Xe (Xm j (Xe (Xh (T (S (G (R q 1 c j fun a c=>E (T (Ex (Xm j (Xe (Xm j (Xe (Xe (Xm j (Xe (Xh (T (⟨_,d,u,m,n,o,aa,c.kp j,g,(z.m (i.t aa))⟩)))))))))))))))))))))))))))
    replace d:=cf bj d;refine K (T (S (S (G (R q 2 c j fun a c=>E (T (Cc (b:=decide (h.Kind=(10:Int))) c j (fun bi=>?_) (fun bi=>?_))))))))
    · replace d:=ct bi d
      refine Ex (Xe (Xe (Xm j (Xe (Xm j (Xe (Xm j (Xe (Xm j (Xe (Xm j (Xe (Xh (T (S (S (G (R q 1 c j fun a c=>L g c j (B q 0 j j j j) j fun a c=>?_))))))))))))))))))
      obtain ⟨dl,dj,d⟩:=bd d;refine J cl_144 g c j j ((schema_total.ok k) dj g.pass0 ) j ?_;rintro a w _ cm _ ⟨rfl,rfl⟩ b7 g c
      refine R q 1 c j fun a c=>E (T (Cc (b:=!dl) c j (fun bf=>?_) (fun bf=>?_)));rotate_left
      · replace d:=cf bf d;refine K (T (G (R q 3 c j fun a c=>E (xB (T (⟨_,d,cm,(aa.t b7),c.kp j,g⟩))))))
      replace d:=ct bf d;refine S (G (R q 1 c j fun a c=>E (T (V (Xr (Xb (Xr (Xr (Xb (Xr (Xb (Xr (Xr ?_)))))))))))));cases d
      refine N (v:=_) c j ⟨_,_,_,j,(g.pick [1,2] (by decide) j),m,n,o,j,j,(z.m ((i.t aa).t b7))⟩
    replace d:=cf bi d;refine K (T (S (S (G (R q 2 c j fun a c=>E (T ?_))))));obtain ⟨cd,d,c8⟩:=bd d
    refine X c g (fun e L a' w'=>∃ a0,u.le a0∧Env a' 113 (sl e [0,2,4,7] [(35,.bool cd)])∧Inv ac p ab a0 L w') ?_ ?_
    · refine Cc (b:=decide (h.Kind=(8:Int))) c j (fun bh=>?_) (fun bh=>?_)
      · replace d:=ct bh d;refine K (T ?_);cases d;exact ⟨u,rf,c.kp j,g⟩
      replace d:=cf bh d;refine G (R q 2 c j fun a c=>E (T ?_));cases d;exact ⟨u,rf,c.kp j,g⟩
    rintro a w ⟨a0,b8,c,g⟩;have d:=c8;refine T (Cc (b:=cd) c j (fun bg=>?_) (fun bg=>?_))
    · replace d:=ct bg d;refine Ex (Xe (Xm j (Xe (Xm j (Xe (Xm j (Xe (Xm j (Xe (Xm j (Xe (Xm j (Xe (Xh (T (⟨_,d,a0,(aa.t b8),c.kp j,g⟩))))))))))))))))
    replace d:=cf bg d
    refine K (T (Ex (Xm j (Xe (Xm j (Xe (Xm j (Xe (Xm j (Xe (Xm j (Xe (Xm j (Xe (Xm j (Xe (Xe (Xh (T (S (S (G (R q 1 c j fun a c=>E (T (V (Xr (Xb (Xr (Xr ?_)))))))))))))))))))))))))))))
    cases d;refine N (v:=_) c j ⟨_,_,_,j,(g.pick [1,2] (by decide) j),m,n,o,j,j,(z.m ((i.t aa).t b8))⟩
  replace d:=ct bk d
  refine Ex (Xe (Xe (Xm j (Xe (Xm j (Xe (Xm j (Xe (Xh (T (S (S (Cd mixed (by kernel_rfl) g (Y q 3 c j fun a c=>Z c j (B q 1 j j j j) j fun a c=>Y q 1 c j fun a c=>Z c j (B q 0 j j j j) j fun a c=>?_))))))))))))))
  obtain ⟨cu,u458,dd,df,de⟩:=f_lookG key_str (bz.m (i.t aa)) um_109 uk_9 true c (L:=[.blk cn [i_ h.Kind,i_ h.N,.string h.S,.string h.T,.slice cg h.Kids.length co,.slice ch h.Q.length cp] 145,.blk a1 [.string l.table_,.map au,u4,.slice m l.used_.length n] 206,.row (.slice m l.used_.length n) 3 1 l.used_.length o]) (x:=.tmp 54) (y:=.tmp 56) j j z_3 (rep_int.2 j) j
  obtain rfl:cu=[u458]:=df;obtain rfl:=rep1_int.1 dd;refine Z c j (de _ _ _) j fun a c=>Y q 5 c j fun a c=>Qe ?_;intro w g;refine T (S (S ?_))
  obtain ⟨cc,d,c6⟩:=bd d;refine X c g (fun e L a' w'=>∃ al,u.le al∧Env a' 113 (sl e [0,2,4,7,8] [(75,.bool cc)])∧Inv ac p ab al L w') ?_ ?_
  · refine Cd mixed (by kernel_rfl) g (Y q 3 c j fun a c=>?_);rcases Bo (!((mget l.cols_ h.S).isSome)) with ap | ap
    · replace d:=ct ap d;have c:=c.tr (t:=62) j ap;refine Y q 13 c j fun a c=>Qe ?_;intro w g;refine T ?_;cases d;exact ⟨u,rf,c.kp j,g⟩
    replace d:=cf ap d;have c:=c.tr (t:=62) j ap;refine Y q 1 c j fun a c=>Z c j (B q 0 j j j j) j fun a c=>Y q 2 c j fun a c=>?_
    rcases Bo (!decide (h.T=(⟨#[]⟩:ByteArray))) with aq | aq;rotate_left
    · replace d:=cf aq d;have c:=c.tr (t:=66) j aq;refine Y q 9 c j fun a c=>Qe ?_;intro w g;refine T ?_;cases d;exact ⟨u,rf,c.kp j,g⟩
    replace d:=ct aq d;have c:=c.tr (t:=66) j aq
    refine Y q 1 c j fun a c=>Z c j (B q 0 j j j j) j fun a c=>Y q 3 c j fun a c=>Z c j (B q 1 j j j j) j fun a c=>Y q 3 c j fun a c=>Qe ?_
    intro w g;refine T ?_;cases d;exact ⟨u,rf,c.kp j,g⟩
  rintro a w ⟨al,br,c,g⟩;have d:=c6;refine T (Cc (b:=cc) c j (fun be=>?_) (fun be=>?_))
  · replace d:=ct be d;refine S (G (R q 1 c j fun a c=>E (T (V (Xr (Xr (Xb (Xr (Xb (Xr (Xb (Xr (Xr (Xb (Xr (Xb (Xr (Xr ?_))))))))))))))))));cases d
    refine N (v:=_) c j ⟨_,_,_,j,(g.pick [1,2] (by decide) j),m,n,o,j,j,(z.m ((i.t aa).t br))⟩
  replace d:=cf be d
  refine K (T (G (R q 4 c j fun a c=>L g c j (B q 1 j j j j) j fun a c=>R q 1 c j fun a c=>Bs ai_40 g c j j j j j fun a w dp c g=>?_)))
  have b4:RL al 1 ([((mget l.cols_ h.S).getD (0:Int))].map di) _:=(Rc (rep_int.2 j) j Rn);obtain ⟨_,da,d⟩:=bd d
  refine Ao (f:=di) (xs:=l.used_) (ys:=[((mget l.cols_ h.S).getD (0:Int))]) ai_40 3 0 g c j j j b4 j j (Ll da) j fun a w ck cv c g=>?_
  have c7:=Ra (z.m ((i.t aa).t br)) b4
  refine R q 2 c j fun a c=>W q 2 g c j j j j j j j j j j fun a w c g=>E (T (Ex (Xm j (Xe (Xm j (Xe (Xm j (Xe (Xe (Xm j (Xe (Xh (T (⟨_,d,al,ck,cv,(o ++ [i_ ((mget l.cols_ h.S).getD (0:Int))]),(aa.t br),c.kp j,(g.dropN 1 j),c7⟩))))))))))))))

theorem schema_predicate_shape.ok_all:∀ k,schema_predicate_shape.C (schema_predicate_shape k)
  | 0=>by first | (intro _ _ _ _ h;cases h;done) | (intro h;cases h)
  | k + 1=>by
    have h:=@schema_predicate_shape.ok_all k
    exact schema_predicate_shape.F_ok k (schema_predicate_shape k) @h

theorem schema_predicate_shape.ok (k:Nat):schema_predicate_shape.C (schema_predicate_shape k):=@schema_predicate_shape.ok_all k

theorem cl_146:Callable Tryz.prog 146:=⟨_,Tryz.func146,by kernel_rfl,by kernel_rfl⟩

def schema_logical.C (s:Int→Option Bool):Prop:=∀ {d r},s d=some r→∀ {b c },Inv b c [] c [] b→Calls Tryz.prog 146 #[i_ d] b (Ret b c [] fun G' L' v=>L'=[]∧v = .bool r)

theorem schema_logical.ok (k:Nat):schema_logical.C (schema_logical k):=by
  intro m r c n g  d
  unfold schema_logical at c
  refine Ci 9 Tryz.func146 j j j fun a b=>?_
  refine S (G (R q 1 b j fun a b=>E (T (S ?_))));obtain ⟨l,c,i⟩:=bd c;refine X b d (fun e L a' w'=>∃ h,g.le h∧Env a' 9 [(2,.bool l)]∧Inv n g [] h L w') ?_ ?_
  rotate_left
  · rintro a w ⟨h,o,b,d⟩;have c:=i;refine T (V ?_);cases c;refine N (v:=_) b j ⟨_,_,_,j,d.nil,j,j⟩
  refine G (R q 3 b j fun a b=>?_);rcases Bo (decide (m=(1:Int))) with f | f
  · replace c:=ct f c;have b:=b.tr (t:=5) j f;refine R q 4 b j fun a b=>E (T ?_);cases c;exact ⟨g,rf,b.kp j,d⟩
  replace c:=cf f c;have b:=b.tr (t:=5) j f;refine R q 4 b j fun a b=>E (T ?_);cases c;exact ⟨g,rf,b.kp j,d⟩

theorem cl_147:Callable Tryz.prog 147:=⟨_,Tryz.func147,by kernel_rfl,by kernel_rfl⟩

def schema_one.C (s:Int→Int→Option Int):Prop:=∀ {d e r},s d e=some r→∀ {b c },Inv b c [] c [] b→Calls Tryz.prog 147 #[i_ d,i_ e] b (Ret b c [] fun G' L' v=>L'=[]∧v=i_ r)

theorem schema_one.ok (k:Nat):schema_one.C (schema_one k):=by
  intro x ab r d y h  f
  unfold schema_one at d
  refine Ci 25 Tryz.func147 j j j fun a c=>?_
  refine S (G (R q 1 c j fun a c=>E (T (S (O (S ?_))))));obtain ⟨u,d,aa⟩:=bd d
  refine X c f (fun e L a' w'=>∃ g,h.le g∧Env a' 25 (sl e [0,1] [(5,.bool u)])∧Inv y h [] g L w') ?_ ?_
  · refine G (R q 3 c j fun a c=>?_);rcases Bo (decide (x=(-1:Int))) with l | l
    · replace d:=ct l d;have c:=c.tr (t:=8) j l;refine R q 4 c j fun a c=>E (T ?_);cases d;exact ⟨h,rf,c.kp j,f⟩
    replace d:=cf l d;have c:=c.tr (t:=8) j l;refine R q 4 c j fun a c=>E (T ?_);cases d;exact ⟨h,rf,c.kp j,f⟩
  rintro a w ⟨g,ad,c,f⟩;have d:=aa;refine T (Cc (b:=u) c j (fun p=>?_) (fun p=>?_))
  · replace d:=ct p d;refine S (G (R q 1 c j fun a c=>E (T (V (Xb (Xr ?_))))));cases d;refine N (v:=_) c j ⟨_,_,_,j,f.nil,j,j⟩
  replace d:=cf p d;refine S (G (R q 3 c j fun a c=>E (T (Cc (b:=decide (x=(0:Int))) c j (fun o=>?_) (fun o=>?_)))))
  · replace d:=ct o d;refine S (G (R q 2 c j fun a c=>E (T (V (Xb (Xr ?_))))));cases d;refine N (v:=_) c j ⟨_,_,_,j,f.nil,j,j⟩
  replace d:=cf o d;refine S ?_;obtain ⟨s,d,z⟩:=bd d;refine X c f (fun e L a' w'=>∃ m,g.le m∧Env a' 25 (sl e [0] [(16,.bool s)])∧Inv y h [] m L w') ?_ ?_
  · refine G (R q 3 c j fun a c=>?_);rcases Bo (decide (ab=(0:Int))) with i | i
    · replace d:=ct i d;have c:=c.tr (t:=19) j i;refine R q 5 c j fun a c=>E (T ?_);cases d;exact ⟨g,rf,c.kp j,f⟩
    replace d:=cf i d;have c:=c.tr (t:=19) j i;refine R q 5 c j fun a c=>E (T ?_);cases d;exact ⟨g,rf,c.kp j,f⟩
  rintro a w ⟨m,ac,c,f⟩;have d:=z;refine T (Cc (b:=s) c j (fun n=>?_) (fun n=>?_))
  · replace d:=ct n d;refine S (G (R q 2 c j fun a c=>E (T (V (Xb (Xr ?_))))));cases d;refine N (v:=_) c j ⟨_,_,_,j,f.nil,j,j⟩
  replace d:=cf n d;refine K (xB (T (S (G (R q 1 c j fun a c=>E (T (V ?_)))))));cases d;refine N (v:=_) c j ⟨_,_,_,j,f.nil,j,j⟩

theorem cl_113:Callable Tryz.prog 113:=⟨_,Tryz.func113,by kernel_rfl,by kernel_rfl⟩

def schema_predicate_typeOf.C (s:(Option Tschema_predicate)→TExpr→Option Int):Prop:=∀ {f g r},s f g=some r→∀ {c b d e},Inv c b [] b [] c→(Pt b d 206 Tschema_predicate.d f)→(Rep b g.d e)→Calls Tryz.prog 113 #[.pointer d,.agg ⟨e⟩] c (Ret c b [] fun G' L' v=>L'=[]∧v=i_ r)

theorem cl_145:Callable Tryz.prog 145:=⟨_,Tryz.func145,by kernel_rfl,by kernel_rfl⟩

def schema_predicate_typeOf_1.C (s:Int→(Option (Option Tschema_predicate))→(Option TExpr)→Option Int):Prop:=∀ {f g h r},s f g h=some r→∀ {c b d e},Inv c b [] b [] c→(Pt b d 204 (D.op 206 Tschema_predicate.d) g)→(Pt b e 145 TExpr.d h)→Calls Tryz.prog 145 #[i_ f,.pointer d,.pointer e] c (Ret c b [] fun G' L' v=>L'=[]∧v=i_ r)

theorem schema_predicate_typeOf.F_ok (k:Nat) (s_schema_predicate_typeOf:(Option Tschema_predicate)→TExpr→Option Int) (s_schema_predicate_typeOf_1:Int→(Option (Option Tschema_predicate))→(Option TExpr)→Option Int) (hs_schema_predicate_typeOf:schema_predicate_typeOf.C s_schema_predicate_typeOf) (hs_schema_predicate_typeOf_1:schema_predicate_typeOf_1.C s_schema_predicate_typeOf_1):schema_predicate_typeOf.C (schema_predicate_typeOf.F k s_schema_predicate_typeOf s_schema_predicate_typeOf_1):=by
  intro ac g r d bl ae z em f s c6
  unfold schema_predicate_typeOf.F at d
  obtain ⟨m,o,n,p,rfl,aa,ab⟩:=TExpr.inv.1 c6
  refine Ci 84 Tryz.func113 j j j fun a c=>?_
  
  refine S (G (s_box f c j j j j fun a w i c f=>s_box f c j j j j fun a w l c f=>R q 1 c j fun a c=>E (T (S (G (L f c j (f_mkfn j) j fun a c=>R q 1 c j fun a c=>E (T (S (S (G (R q 1 c j fun a c=>L f c j (B q 0 j j j j) j fun a c=>E (T (O (S (G (R q 2 c j fun a c=>E (T (Cc (b:=decide (g.Kind=(1:Int))) c j (fun aw=>?_) (fun aw=>?_)))))))))))))))))))
  · replace d:=ct aw d;refine S (G (R q 1 c j fun a c=>E (T (V (Xb (Xr ?_))))));cases d;refine N (v:=_) c j ⟨_,_,_,j,f.nil,j,j⟩
  replace d:=cf aw d;refine S (G (R q 2 c j fun a c=>E (T (Cc (b:=decide (g.Kind=(2:Int))) c j (fun av=>?_) (fun av=>?_)))))
  · replace d:=ct av d;refine S (G (R q 1 c j fun a c=>E (T (V (Xb (Xr ?_))))));cases d;refine N (v:=_) c j ⟨_,_,_,j,f.nil,j,j⟩
  replace d:=cf av d;refine S (G (R q 2 c j fun a c=>E (T (Cc (b:=decide (g.Kind=(3:Int))) c j (fun au=>?_) (fun au=>?_)))))
  · replace d:=ct au d;refine S (G (R q 1 c j fun a c=>E (T (V (Xb (Xr ?_))))));cases d;refine N (v:=_) c j ⟨_,_,_,j,f.nil,j,j⟩
  replace d:=cf au d;refine S (G (R q 2 c j fun a c=>E (T (Cc (b:=decide (g.Kind=(4:Int))) c j (fun ar=>?_) (fun ar=>?_)))))
  · replace d:=ct ar d;refine S (G (R q 1 c j fun a c=>E (T (V (Xb (Xr ?_))))));cases d;refine N (v:=_) c j ⟨_,_,_,j,f.nil,j,j⟩
  replace d:=cf ar d;refine S (G (R q 2 c j fun a c=>E (T (Cc (b:=decide (g.Kind=(5:Int))) c j (fun aq=>?_) (fun aq=>?_)))))
  · replace d:=ct aq d;refine S (Cd mixed (by kernel_rfl) f (Z c j (B q 1 j j j j) j fun a c=>?_));rcases (s).cases with ⟨be,rfl⟩ | ⟨ey,b4,cs,be,rfl,c9,bg⟩
    · cases op_n be d
    replace d:=op_s be d;obtain ⟨d6,d7,d8,ei,rfl,cg,ch,en⟩:=Tschema_predicate.inv.1 c9;refine Y q 2 c j fun a c=>Z c j (Fg q bg 2 j j j j) j fun a c=>?_
    rcases (ch).cases with ⟨bf,rfl⟩ | ⟨ez,eg,cs,bf,rfl,da,cz⟩
    · cases op_n bf d
    replace d:=op_s bf d;obtain ⟨d9,ej,ea,ek,eb,el,rfl,ci,eo,ep⟩:=TRelation.inv.1 da
    refine Y q 2 c j fun a c=>Z c j (Fg q cz 2 j j j j) j fun a c=>Z c j (B q 1 j j j j) j fun a c=>Y q 2 c j fun a c=>Z c j (Fg q bg 1 j j j j) j fun a c=>Y q 1 c j fun a c=>Z c j (B q 0 j j j j) j fun a c=>?_
    obtain ⟨b5,u48,de,dg,df⟩:=f_lookG key_str cg um_109 uk_9 false c (L:=[.blk l [i_ g.Kind,i_ g.N,.string g.S,.string g.T,.slice m g.Kids.length o,.slice n g.Q.length p] 145,.blk i [(P b4)] 204]) (x:=.tmp 31) (y:=.tmp 33) j j z_3 (rep_int.2 j) j
    obtain rfl:b5=[u48]:=dg;obtain rfl:=rep1_int.1 de;refine Z c j (df _ _ _) j fun a c=>?_;obtain ⟨e0,bi,d⟩:=bd d
    obtain ⟨eh,ev,cs,dc,db,c0⟩:=Sa ci (Go bi).1 (Go bi).2;obtain rfl:=TField.inv.1 db
    refine Z c j (I q dc j j j) j fun a c=>Y q 1 c j fun a c=>Z c j (Fg q c0 1 j j j j) j fun a c=>Y q 1 c j fun a c=>Qe ?_;intro w f
    refine T (V (Xb (Xr ?_)));cases d;refine N (v:=_) c j ⟨_,_,_,j,f.nil,j,j⟩
  replace d:=cf aq d;refine S (G (R q 2 c j fun a c=>E (T (Cc (b:=decide (g.Kind=(8:Int))) c j (fun ap=>?_) (fun ap=>?_)))))
  · replace d:=ct ap d;refine S (S (G (R q 1 c j fun a c=>?_)));obtain ⟨d3,ds,d⟩:=bd d
    refine Cv (S:=fun _ L' u=>L'=[]∧u=i_ d3) f c j j j (by obtain ⟨bx,a8,f,c1⟩:=(f.front 1).giveB;have cj:Pt bx (p_ i) 204 (D.op 206 Tschema_predicate.d) (some ac):=Pm (rep_op.2 ⟨z,j,(s.m a8)⟩) c1;obtain ⟨bz,a9,f,c2⟩:=(f.front 0).giveB;have ck:Pt bz (p_ l) 145 TExpr.d (some g):=Pm (TExpr.inv.2 ⟨m,o,n,p,j,(aa.m (a8.t a9)),(ab.m (a8.t a9))⟩) c2;exact ⟨_,145,[(P i),(P l)],j,cl_145,hs_schema_predicate_typeOf_1 ds f.pass0 (cj.m a9) ck⟩) (fun _ _ _ h=>h.2) j ?_
    intro a w f c;obtain ⟨d4,dt,d⟩:=bd d;refine J cl_146 f c j j ((schema_logical.ok k) dt f.pass0 ) j ?_;rintro a w _ ef _ ⟨rfl,rfl⟩ eu f c
    refine R q 1 c j fun a c=>E (T (Cc (b:=!d4) c j (fun ax=>?_) (fun ax=>?_)))
    · replace d:=ct ax d;refine S (G (R q 1 c j fun a c=>E (T (V (Xr (Xb (Xr ?_)))))));cases d;refine N (v:=_) c j ⟨_,_,_,j,f.nil,j,j⟩
    replace d:=cf ax d;refine K (T (S (G (R q 1 c j fun a c=>E (T (V (Xb (Xr ?_))))))));cases d;refine N (v:=_) c j ⟨_,_,_,j,f.nil,j,j⟩
  replace d:=cf ap d;refine S (G (R q 2 c j fun a c=>E (T (Cc (b:=decide (g.Kind=(9:Int))) c j (fun ao=>?_) (fun ao=>?_)))))
  · replace d:=ct ao d;refine S (S (G (R q 1 c j fun a c=>?_)));obtain ⟨bm,du,d⟩:=bd d
    refine Cv (S:=fun _ L' u=>L'=[]∧u=i_ bm) f c j j j (by obtain ⟨b0,ba,f,c3⟩:=(f.front 1).giveB;have cl:Pt b0 (p_ i) 204 (D.op 206 Tschema_predicate.d) (some ac):=Pm (rep_op.2 ⟨z,j,(s.m ba)⟩) c3;obtain ⟨b1,bb,f,c4⟩:=(f.front 0).giveB;have cm:Pt b1 (p_ l) 145 TExpr.d (some g):=Pm (TExpr.inv.2 ⟨m,o,n,p,j,(aa.m (ba.t bb)),(ab.m (ba.t bb))⟩) c4;exact ⟨_,145,[(P i),(P l)],j,cl_145,hs_schema_predicate_typeOf_1 du f.pass0 (cl.m bb) cm⟩) (fun _ _ _ h=>h.2) j ?_
    intro a w f c;refine R q 1 c j fun a c=>E (T (Cc (b:=decide (bm=(-1:Int))) c j (fun ay=>?_) (fun ay=>?_)))
    · replace d:=ct ay d;refine S (G (R q 1 c j fun a c=>E (T (V (Xr (Xb (Xr ?_)))))));cases d;refine N (v:=_) c j ⟨_,_,_,j,f.nil,j,j⟩
    replace d:=cf ay d;refine K (T (S (G (R q 1 c j fun a c=>E (T (V (Xb (Xr ?_))))))));cases d;refine N (v:=_) c j ⟨_,_,_,j,f.nil,j,j⟩
  replace d:=cf ao d;refine S (G (R q 2 c j fun a c=>E (T (Cc (b:=decide (g.Kind=(11:Int))) c j (fun an=>?_) (fun an=>?_)))))
  · replace d:=ct an d;refine S (S (G (R q 1 c j fun a c=>?_)));obtain ⟨d5,dv,d⟩:=bd d
    refine Cv (S:=fun _ L' u=>L'=[]∧u=i_ d5) f c j j j (by obtain ⟨b2,bc,f,c5⟩:=(f.front 1).giveB;have cn:Pt b2 (p_ i) 204 (D.op 206 Tschema_predicate.d) (some ac):=Pm (rep_op.2 ⟨z,j,(s.m bc)⟩) c5;obtain ⟨b3,az,f,co⟩:=(f.front 0).giveB;have b6:Pt b3 (p_ l) 145 TExpr.d (some g):=Pm (TExpr.inv.2 ⟨m,o,n,p,j,(aa.m (bc.t az)),(ab.m (bc.t az))⟩) co;exact ⟨_,145,[(P i),(P l)],j,cl_145,hs_schema_predicate_typeOf_1 dv f.pass0 (cn.m az) b6⟩) (fun _ _ _ h=>h.2) j ?_
    intro a w f c;obtain ⟨dw,dh,d⟩:=bd d;refine J cl_146 f c j j ((schema_logical.ok k) dh f.pass0 ) j ?_;rintro a w _ ec _ ⟨rfl,rfl⟩ ad f c
    refine R q 1 c j fun a c=>E (T (Cc (b:=!dw) c j (fun aj=>?_) (fun aj=>?_)))
    · replace d:=ct aj d;refine S (G (R q 1 c j fun a c=>E (T (V (Xr (Xb (Xr ?_)))))));cases d;refine N (v:=_) c j ⟨_,_,_,j,f.nil,j,j⟩
    replace d:=cf aj d;refine K (T (S (G (R q 1 c j fun a c=>?_))));obtain ⟨dx,dj,d⟩:=bd d
    refine Cv (S:=fun _ L' u=>L'=[]∧u=i_ dx) f c j j j (by obtain ⟨bn,a0,f,cp⟩:=(f.front 1).giveB;have b7:Pt bn (p_ i) 204 (D.op 206 Tschema_predicate.d) (some ac):=Pm (rep_op.2 ⟨z,j,(s.m (ad.t a0))⟩) cp;obtain ⟨bo,a1,f,cq⟩:=(f.front 0).giveB;have b8:Pt bo (p_ l) 145 TExpr.d (some g):=Pm (TExpr.inv.2 ⟨m,o,n,p,j,(aa.m ((ad.t a0).t a1)),(ab.m ((ad.t a0).t a1))⟩) cq;exact ⟨_,145,[(P i),(P l)],j,cl_145,hs_schema_predicate_typeOf_1 dj f.pass0 (b7.m a1) b8⟩) (fun _ _ _ h=>h.2) j ?_
    intro a w f c;refine R q 1 c j fun a c=>?_;obtain ⟨dy,dk,d⟩:=bd d
    refine Cv (S:=fun _ L' u=>L'=[]∧u=i_ dy) f c j j j (by obtain ⟨bp,a2,f,cr⟩:=(f.front 1).giveB;have b9:Pt bp (p_ i) 204 (D.op 206 Tschema_predicate.d) (some ac):=Pm (rep_op.2 ⟨z,j,(s.m (ad.t a2))⟩) cr;obtain ⟨bq,a3,f,cu⟩:=(f.front 0).giveB;have ca:Pt bq (p_ l) 145 TExpr.d (some g):=Pm (TExpr.inv.2 ⟨m,o,n,p,j,(aa.m ((ad.t a2).t a3)),(ab.m ((ad.t a2).t a3))⟩) cu;exact ⟨_,145,[(P i),(P l)],j,cl_145,hs_schema_predicate_typeOf_1 dk f.pass0 (b9.m a3) ca⟩) (fun _ _ _ h=>h.2) j ?_
    intro a w f c;obtain ⟨ew,dl,d⟩:=bd d;refine J cl_147 f c j j ((schema_one.ok k) dl f.pass0 ) j ?_;rintro a w _ ed _ ⟨rfl,rfl⟩ eq f c
    refine R q 1 c j fun a c=>E (T (V (Xb (Xr ?_))));cases d;refine N (v:=_) c j ⟨_,_,_,j,f.nil,j,j⟩
  replace d:=cf an d;refine K (xB (T (S (G (R q 1 c j fun a c=>?_)))));obtain ⟨dz,dm,d⟩:=bd d
  refine Cv (S:=fun _ L' u=>L'=[]∧u=i_ dz) f c j j j (by obtain ⟨br,a4,f,cv⟩:=(f.front 1).giveB;have cb:Pt br (p_ i) 204 (D.op 206 Tschema_predicate.d) (some ac):=Pm (rep_op.2 ⟨z,j,(s.m a4)⟩) cv;obtain ⟨bs,a5,f,cw⟩:=(f.front 0).giveB;have cc:Pt bs (p_ l) 145 TExpr.d (some g):=Pm (TExpr.inv.2 ⟨m,o,n,p,j,(aa.m (a4.t a5)),(ab.m (a4.t a5))⟩) cw;exact ⟨_,145,[(P i),(P l)],j,cl_145,hs_schema_predicate_typeOf_1 dm f.pass0 (cb.m a5) cc⟩) (fun _ _ _ h=>h.2) j ?_
  intro a w f c;refine R q 1 c j fun a c=>?_;obtain ⟨d0,dn,d⟩:=bd d
  refine Cv (S:=fun _ L' u=>L'=[]∧u=i_ d0) f c j j j (by obtain ⟨bt,a6,f,cx⟩:=(f.front 1).giveB;have cd:Pt bt (p_ i) 204 (D.op 206 Tschema_predicate.d) (some ac):=Pm (rep_op.2 ⟨z,j,(s.m a6)⟩) cx;obtain ⟨bu,a7,f,cy⟩:=(f.front 0).giveB;have ce:Pt bu (p_ l) 145 TExpr.d (some g):=Pm (TExpr.inv.2 ⟨m,o,n,p,j,(aa.m (a6.t a7)),(ab.m (a6.t a7))⟩) cy;exact ⟨_,145,[(P i),(P l)],j,cl_145,hs_schema_predicate_typeOf_1 dn f.pass0 (cd.m a7) ce⟩) (fun _ _ _ h=>h.2) j ?_
  intro a w f c;refine R q 2 c j fun a c=>E (T (S (S ?_)));obtain ⟨bj,d,c7⟩:=bd d
  refine X c f (fun e L a' w'=>∃ ah,ae.le ah∧Env a' 84 (sl e [6,7] [(71,.bool bj)])∧Inv bl ae [] ah [] w') ?_ ?_
  · refine G (R q 1 c j fun a c=>L f c j (B q 0 j j j j) j fun a c=>R q 2 c j fun a c=>?_)
    rcases Bo (decide (g.S=(⟨#[111,114]⟩:ByteArray))) with ag | ag
    · replace d:=ct ag d;have c:=c.tr (t:=67) j ag;refine R q 4 c j fun a c=>E (T ?_);cases d;exact ⟨ae,rf,c.kp j,(f.dropN 2 j)⟩
    replace d:=cf ag d;have c:=c.tr (t:=67) j ag;refine R q 1 c j fun a c=>L f c j (B q 0 j j j j) j fun a c=>R q 2 c j fun a c=>E (T ?_)
    cases d;exact ⟨ae,rf,c.kp j,(f.dropN 2 j)⟩
  rintro a w ⟨ah,er,c,f⟩;have d:=c7;refine T (Cc (b:=bj) c j (fun am=>?_) (fun am=>?_));rotate_left
  · replace d:=cf am d;refine K (T (S (S (G (R q 2 c j fun a c=>?_)))));obtain ⟨d2,dr,d⟩:=bd d;refine J cl_147 f c j j ((schema_one.ok k) dr f.pass0 ) j ?_
    rintro a w _ ee _ ⟨rfl,rfl⟩ et f c;refine R q 1 c j fun a c=>E (T (Cc (b:=decide (d2=(-1:Int))) c j (fun al=>?_) (fun al=>?_)))
    · replace d:=ct al d;refine S (G (R q 1 c j fun a c=>E (T (V (Xr ?_)))));cases d;refine N (v:=_) c j ⟨_,_,_,j,f.nil,j,j⟩
    replace d:=cf al d;refine K (T (S (G (R q 1 c j fun a c=>E (T (V ?_))))));cases d;refine N (v:=_) c j ⟨_,_,_,j,f.nil,j,j⟩
  replace d:=ct am d;refine S (S ?_);obtain ⟨bk,d,c8⟩:=bd d;refine X c f (fun e L a' w'=>∃ ai,ah.le ai∧Env a' 84 [(79,.bool bk)]∧Inv bl ae [] ai L w') ?_ ?_;rotate_left
  · rintro a w ⟨ai,es,c,f⟩;have d:=c8;refine T (Cc (b:=bk) c j (fun ak=>?_) (fun ak=>?_))
    · replace d:=ct ak d;refine S (G (R q 1 c j fun a c=>E (T (V (Xr (Xr ?_))))));cases d;refine N (v:=_) c j ⟨_,_,_,j,f.nil,j,j⟩
    replace d:=cf ak d;refine K (T (S (G (R q 1 c j fun a c=>E (T (V (Xr ?_)))))));cases d;refine N (v:=_) c j ⟨_,_,_,j,f.nil,j,j⟩
  refine G (R q 1 c j fun a c=>?_);obtain ⟨d1,dp,d⟩:=bd d;refine J cl_146 f c j j ((schema_logical.ok k) dp f.pass0 ) j ?_;rintro a w _ bv _ ⟨rfl,rfl⟩ bh f c
  refine R q 2 c j fun a c=>?_;rcases Bo (!d1) with af | af
  · replace d:=ct af d;have c:=c.tr (t:=75) j af;refine R q 4 c j fun a c=>E (T ?_);cases d;exact ⟨bv,bh,c.kp j,f⟩
  replace d:=cf af d;have c:=c.tr (t:=75) j af;refine R q 1 c j fun a c=>?_;obtain ⟨ex,dq,d⟩:=bd d
  refine J cl_146 f c j j ((schema_logical.ok k) dq f.pass0 ) j ?_;rintro a w _ bw _ ⟨rfl,rfl⟩ dd f c;refine R q 2 c j fun a c=>E (T ?_);cases d
  exact ⟨bw,(bh.t dd),c.kp j,f⟩

theorem schema_predicate_typeOf_1.F_ok (k:Nat) (s_schema_predicate_typeOf:(Option Tschema_predicate)→TExpr→Option Int) (s_schema_predicate_typeOf_1:Int→(Option (Option Tschema_predicate))→(Option TExpr)→Option Int) (hs_schema_predicate_typeOf:schema_predicate_typeOf.C s_schema_predicate_typeOf) (hs_schema_predicate_typeOf_1:schema_predicate_typeOf_1.C s_schema_predicate_typeOf_1):schema_predicate_typeOf_1.C (schema_predicate_typeOf_1.F k s_schema_predicate_typeOf s_schema_predicate_typeOf_1):=by
  intro av aw ax r c ay al ag aj d o t
  unfold schema_predicate_typeOf_1.F at c
  refine Ci 12 Tryz.func145 j j j fun a b=>?_
  refine S (G (R q 1 b j fun a b=>E (T (S (Cd mixed (by kernel_rfl) d ?_)))));rcases (o).cases with ⟨e,rfl⟩ | ⟨az,am,cs,e,rfl,ab,y⟩
  · cases op_n e c
  replace c:=op_s e c;obtain ⟨ah,rfl,p⟩:=rep_op.1 ab;refine Z b j (Fg q y 0 j j j j) j fun a b=>?_;rcases (t).cases with ⟨f,rfl⟩ | ⟨a0,an,cs,f,rfl,ac,z⟩
  · cases op_n f c
  replace c:=op_s f c;obtain ⟨ai,ap,ak,aq,rfl,s,ar⟩:=TExpr.inv.1 ac
  refine Y q 1 b j fun a b=>Z b j (Fg q z 4 j j j j) j fun a b=>Y q 1 b j fun a b=>?_;obtain ⟨a1,g,c⟩:=bd c
  obtain ⟨ao,au,cs,ae,ad,aa⟩:=Sa s (Go g).1 (Go g).2;obtain ⟨i,m,l,n,rfl,u,x⟩:=TExpr.inv.1 ad
  refine Z b j (I q ae j j j) j fun a b=>Z b j (Fg q aa 0 j j j j) j fun a b=>?_;obtain ⟨a2,af,c⟩:=bd c
  refine Qc cl_113 b j j (fun w d=>hs_schema_predicate_typeOf af d.pass0 p (TExpr.inv.2 ⟨i,m,l,n,j,u,x⟩)) (fun _ _ _ h=>h.2) j fun a b=>Y q 1 b j fun a b=>Qe ?_
  intro w d;refine T (V ?_);cases c;refine N (v:=_) b j ⟨_,_,_,j,d.nil,j,j⟩

theorem schema_predicate_typeOf.ok_all:∀ k,schema_predicate_typeOf.C (schema_predicate_typeOf k)∧schema_predicate_typeOf_1.C (schema_predicate_typeOf_1 k)
  | 0=>⟨(by intro _ _ _ h;cases h),(by intro _ _ _ _ h;cases h)⟩
  | k + 1=>by
    have h:=schema_predicate_typeOf.ok_all k
    exact ⟨schema_predicate_typeOf.F_ok k (schema_predicate_typeOf k) (schema_predicate_typeOf_1 k) h.1 h.2,schema_predicate_typeOf_1.F_ok k (schema_predicate_typeOf k) (schema_predicate_typeOf_1 k) h.1 h.2⟩

theorem schema_predicate_typeOf.ok (k:Nat):schema_predicate_typeOf.C (schema_predicate_typeOf k):=(schema_predicate_typeOf.ok_all k).1

theorem schema_predicate_typeOf_1.ok (k:Nat):schema_predicate_typeOf_1.C (schema_predicate_typeOf_1 k):=(schema_predicate_typeOf.ok_all k).2

theorem cl_77:Callable Tryz.prog 77:=⟨_,Tryz.func77,by kernel_rfl,by kernel_rfl⟩

def schema_Catalog_hide.C (s:Tschema_Catalog→TTable→TRelation→(List (ByteArray × Int))→Option (Int × Tschema_Catalog × TRelation)):Prop:=∀ {d y b z r},s d y b z=some r→∀ {e c t i f u4 u5 u6 u7 x l g m h n o u p},Inv e c t c [.blk i [.pointer f,u4,u5,u6,u7,i_ d.limit_] 111,.blk l [.string b.Name,i_ b.Rows,.slice g b.Cols.length m,.slice h b.Key.length n,i_ b.Hide,.slice o b.When.length u] 43] e→(Pt c f 160 Tlattice_Lattice.d d.lattice_)→(Rep c y.d x)→(Sl c g m 4 (b.Cols.map TField.d))→(Sl c h n 1 (b.Key.map di))→(Sl c o u 6 (b.When.map TExpr.d))→(Mp c p false D.str di z)→Calls Tryz.prog 77 #[(P i),.agg ⟨x⟩,(P l),.map p] e (Ret e c t fun G' L' v=>∃ A1_5 c1_5,L'=[.blk i [.pointer f,u4,u5,u6,u7,i_ d.limit_] 111,.blk l [.string b.Name,i_ b.Rows,.slice g b.Cols.length m,.slice h b.Key.length n,i_ r.2.2.Hide,.slice A1_5 r.2.2.When.length c1_5] 43]∧v=i_ r.1∧Sl G' A1_5 c1_5 6 (r.2.2.When.map TExpr.d))
end Go.Proofs.YtknhbphhdfknaaaGreatDoor
