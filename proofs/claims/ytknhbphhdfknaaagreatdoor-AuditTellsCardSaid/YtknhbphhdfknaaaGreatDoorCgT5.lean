/- The contracts: what the machine does at a call is what the plain function says. Written by mk.py. -/
import Derived.Test.YtknhbphhdfknaaaGreatDoorCgT3
import Derived.Test.YtknhbphhdfknaaaGreatDoorCgT4
set_option linter.unusedVariables false
set_option linter.unusedSimpArgs false
set_option maxRecDepth 100000
namespace Go.Proofs.YtknhbphhdfknaaaGreatDoor
open Go.RowKit
theorem schema_Catalog_hide.ok (k:Nat):schema_Catalog_hide.C (schema_Catalog_hide k):=by
  intro de a8 a9 df r d av p am dt dn u4 u5 u6 u7 d1 bc bs b4 bt b5 l m bv f az cu bh cg n bi
  unfold schema_Catalog_hide at d
  obtain ⟨dp,d0,dl,dy,dm,dz,rfl,d4,d5,ay⟩:=TTable.inv.1 cu
  refine Ci 117 Tryz.func77 j j j fun a c=>?_
  refine S (G (s_box f c j j j j fun a w dw c f=>R q 1 c j fun a c=>E (T (S (S ?_)))));obtain ⟨bn,d,cx⟩:=bd d
  refine X c f (fun e L a' w'=>∃ ao,p.le ao∧Env a' 117 (sl e [0,2,3,5] [(23,.bool bn)])∧Inv av p am ao L w') ?_ ?_
  · refine G (R q 1 c j fun a c=>L f c j (B q 0 j j j j) j fun a c=>R q 2 c j fun a c=>?_);rcases Bo (decide (a8.Hide=(⟨#[]⟩:ByteArray))) with ag | ag
    rotate_left
    · replace d:=cf ag d;have c:=c.tr (t:=18) j ag;refine R q 5 c j fun a c=>E (T ?_);cases d;exact ⟨p,rf,c.kp j,f⟩
    replace d:=ct ag d;have c:=c.tr (t:=18) j ag;refine R q 1 c j fun a c=>L f c j (B q 0 j j j j) j fun a c=>R q 3 c j fun a c=>E (T ?_)
    cases d;exact ⟨p,rf,c.kp j,f⟩
  rintro a w ⟨ao,g,c,f⟩;have d:=cx;refine T (Cc (b:=bn) c j (fun a6=>?_) (fun a6=>?_))
  · replace d:=ct a6 d;refine S (G (R q 1 c j fun a c=>E (T (V (Xr ?_)))));cases d
    refine N (v:=_) c j ⟨_,_,_,j,(f.pick [1,2] (by decide) j),l,m,j,j,(n.m g)⟩
  replace d:=cf a6 d
  refine K (T (S (Cd mixed (by kernel_rfl) f (Y q 3 c j fun a c=>Z c j (B q 1 j j j j) j fun a c=>Y q 1 c j fun a c=>Z c j (B q 0 j j j j) j fun a c=>?_))))
  obtain ⟨dj,db,d⟩:=bd d;refine Qc cl_78 c j j (fun w f=>(lattice_Lattice_Find.ok k) db f.pass0 (az.m g)) (fun _ _ _ h=>h.2) j fun a c=>Y q 5 c j fun a c=>Qe ?_
  intro w f;refine T (S (O (S (G (R q 3 c j fun a c=>E (T (Cc (b:=!dj.2) c j (fun a5=>?_) (fun a5=>?_))))))))
  · replace d:=ct a5 d;refine S (G (R q 1 c j fun a c=>E (T (V (Xb (Xr ?_))))));cases d
    refine N (v:=_) c j ⟨_,_,_,j,(f.pick [1,2] (by decide) j),l,m,j,j,(n.m g)⟩
  replace d:=cf a5 d
  refine S (Cd mixed (by kernel_rfl) f (Y q 3 c j fun a c=>Z c j (B q 1 j j j j) j fun a c=>Y q 3 c j fun a c=>Z c j (B q 2 j j j j) j fun a c=>Y q 1 c j fun a c=>?_))
  obtain ⟨dk,dc,d⟩:=bd d;refine Qc cl_36 c j j (fun w f=>(lattice_Lattice_Leq.ok k) dc f.pass0 (az.m g)) (fun _ _ _ h=>h.2) j fun a c=>Y q 2 c j fun a c=>Qe ?_
  intro w f;refine T (Cc (b:=!dk) c j (fun a4=>?_) (fun a4=>?_))
  · replace d:=ct a4 d;refine S (G (R q 1 c j fun a c=>E (T (V (Xb (Xr ?_))))));cases d
    refine N (v:=_) c j ⟨_,_,_,j,(f.pick [1,2] (by decide) j),l,m,j,j,(n.m g)⟩
  replace d:=cf a4 d
  refine S (G (R q 1 c j fun a c=>L f c j (B q 0 j j j j) j fun a c=>R q 3 c j fun a c=>E (T (Cc (b:=!decide ((a8.When.length:Int)=(1:Int))) c j (fun a3=>?_) (fun a3=>?_)))))
  · replace d:=ct a3 d;refine S (G (R q 1 c j fun a c=>E (T (V (Xb (Xr ?_))))));cases d
    refine N (v:=_) c j ⟨_,_,_,j,(f.pick [1,2] (by decide) j),l,m,j,j,(n.m g)⟩
  replace d:=cf a3 d
  refine K (xB (T (S (G (R q 1 c j fun a c=>L f c j (B q 0 j j j j) j fun a c=>R q 2 c j fun a c=>L f c j (Bd q j z_206 j j) j fun a c=>s_box f c j j j j fun a w b1 c f=>R q 1 c j fun a c=>E (T (S (S (G (R q 2 c j fun a c=>L f c j (B q 1 j j j j) j fun a c=>?_))))))))))
  obtain ⟨ej,au,d⟩:=bd d;obtain ⟨dx,ee,cs,c2,cy,co⟩:=Sa (ay.m g) (Go au).1 (Go au).2;obtain ⟨bw,b7,bx,b8,rfl,ci,cj⟩:=TExpr.inv.1 cy
  refine L f c j (I q c2 j j j) j fun a c=>L f c j (Fg q co 0 j j j j) j fun a c=>?_;have f:=f.nilrow 3 1
  have cz:RL ao 1 (([]:List Int).map di) []:=Rn;have f:=f.pick [1,0,2,3,4] (by decide) j;obtain ⟨ac,dd,d⟩:=bd d
  refine M 2 cl_112 f c j j (fun cp=>(schema_predicate_shape.ok k) dd cp (bi.m g) cz (TExpr.inv.2 ⟨bw,b7,bx,b8,j,ci,cj⟩)) j ?_
  rintro a w _ aw _ ⟨bb,bg,b9,rfl,rfl,bk⟩ i f c;refine R q 1 c j fun a c=>E (T (Cc (b:=!ac.1) c j (fun a2=>?_) (fun a2=>?_)))
  · replace d:=ct a2 d;refine S (G (R q 1 c j fun a c=>E (T (V (Xr ?_)))));cases d
    refine N (v:=_) c j ⟨_,_,_,j,(f.pick [3,4] (by decide) j),l,m,j,j,(n.m (g.t i))⟩
  replace d:=cf a2 d;refine K (T (S (S (G (R q 2 c j fun a c=>L f c j (B q 2 j j j j) j fun a c=>?_)))))
  obtain ⟨du,ec,cs,c0,cq,ck⟩:=Sa (ay.m (g.t i)) (Go au).1 (Go au).2;obtain ⟨bq,b2,br,b3,rfl,ca,cb⟩:=TExpr.inv.1 cq
  refine L f c j (I q c0 j j j) j fun a c=>L f c j (Fg q ck 0 j j j j) j fun a c=>?_;obtain ⟨bp,c8,d⟩:=bd d
  refine Cl (S:=fun _ L' u=>L'=[]∧u=i_ bp) cl_113 f c j j (by obtain ⟨bz,x,f,cl⟩:=(f.front 4).giveB;have cc:Pt bz (p_ bc) 43 TRelation.d (some a9):=Pm (TRelation.inv.2 ⟨bs,b4,bt,b5,l,m,j,(bh.m ((g.t i).t x)),(cg.m ((g.t i).t x)),(n.m ((g.t i).t x))⟩) cl;obtain ⟨dq,ar,f,cd⟩:=(f.front 1).giveR (xs:=ac.2.used_.map di) (by simp) (bk.m x);obtain ⟨b0,ah,f,cm⟩:=(f.front 0).giveB;have ce:Pt b0 (p_ b1) 206 Tschema_predicate.d (some (Tschema_predicate.mk a8.Name df (some a9) ac.2.used_)):=Pm (Tschema_predicate.inv.2 ⟨bv,(p_ bc),bb,bg,j,(bi.m ((((g.t i).t x).t ar).t ah)),(cc.m (ar.t ah)),(cd.m ah)⟩) cm;exact ⟨_,(schema_predicate_typeOf.ok k) c8 f.pass0 ce (TExpr.inv.2 ⟨bq,b2,br,b3,j,(ca.m ((x.t ar).t ah)),(cb.m ((x.t ar).t ah))⟩)⟩) (fun _ _ _ h=>h.2) j ?_
  intro a w f c;refine R q 1 c j fun a c=>E (T (S ?_));obtain ⟨bm,d,cr⟩:=bd d
  refine X c f (fun e L a' w'=>∃ y,aw.le y∧Env a' 117 (sl e [0,2,5,9,11] [(78,.bool bm)])∧Inv av p am y L w') ?_ ?_
  · refine G (R q 3 c j fun a c=>?_);rcases Bo (!decide (bp=(1:Int))) with af | af
    · replace d:=ct af d;have c:=c.tr (t:=75) j af;refine R q 3 c j fun a c=>E (T ?_);cases d;exact ⟨aw,rf,c.kp j,f⟩
    replace d:=cf af d;have c:=c.tr (t:=75) j af;refine R q 3 c j fun a c=>E (T ?_);cases d;exact ⟨aw,rf,c.kp j,f⟩
  rintro a w ⟨y,aa,c,f⟩;have d:=cr;refine T (Cc (b:=bm) c j (fun a1=>?_) (fun a1=>?_))
  · replace d:=ct a1 d;refine S (G (R q 1 c j fun a c=>E (T (V (Xr ?_)))));cases d
    refine N (v:=_) c j ⟨_,_,_,j,(f.pick [3,4] (by decide) j),l,m,j,j,(n.m ((g.t i).t aa))⟩
  replace d:=cf a1 d;refine K (T (S (S (G (R q 3 c j fun a c=>L f c j (B q 0 j j j j) j fun a c=>R q 2 c j fun a c=>E (T ?_))))))
  have c6:=f.rle (xs:=ac.2.used_) 1 j;obtain ⟨bo,s,bj⟩:=bd d
  refine X c f (fun e L a' w'=>∃ ak an ba bf ax,bo = .go ak∧y.le an∧Env a' 117 (sl e [2,5,9] [])∧Inv av p am an [.row (.slice ba ak.length bf) 3 1 ak.length ax,nt L 2,nt L 3,nt L 4] w'∧RL an 1 (ak.map di) ax) ?_ ?_
  rotate_left
  · rintro a w ⟨ak,an,ba,bf,ax,rfl,c4,c,f,d6⟩;have d:=Lg bj
    refine T (S (G (R q 4 c j fun a c=>L f c j (B q 1 j j j j) j fun a c=>?_)));obtain ⟨dg,c9,d⟩:=bd d
    refine J cl_54 f c j j ((slices_Clone_api_Expr_api_Expr.ok k) c9 f.pass0 (ay.m (((g.t i).t aa).t c4))) j ?_
    rintro a w _ dr _ ⟨bu,b6,d2,rfl,rfl,cv⟩ d8 f c
    refine R q 2 c j fun a c=>W q 4 f c j j j j j j j j j j fun a w c f=>R q 2 c j fun a c=>W q 4 f c j j j j j j j j j j fun a w c f=>E (T (S (G (R q 1 c j fun a c=>E (T ?_)))))
    obtain ⟨ds,d9,f,ch⟩:=(f.front 0).giveR (xs:=dg.map TExpr.d) (by simp) cv;refine V ?_;cases d
    refine N (v:=_) c j ⟨_,_,_,j,(f.pick [2,3] (by decide) j),bu,b6,j,j,ch⟩
  
  refine O (Q c f (fun e L n' a' w'=>∃ i256 o ab z al ad ae,n'=List.length o∧i256≤ac.2.used_.length∧ac.2.used_.drop i256=o∧forL (schema_Catalog_hide.b0 k a9 de) i256 o ab=some bo∧y.le z∧Env a' 117 (sl e [0,2,5,9,83] [(84,i_ (i256:Int)),(82,.slice al ab.length ad)])∧Inv av p am z [.row (.slice al ab.length ad) 3 1 ab.length ae,nt L 2,nt L 3,nt L 4] w'∧RL z 1 (ab.map di) ae) _ ⟨0,_,_,y,bb,bg,b9,j,Nat.zero_le _,j,s,rf,c.kp j,(f.dropN 1 j),(bk.m aa)⟩ ?_)
  rintro eb a w ⟨i256,o,ab,z,al,ad,ae,rfl,c5,aq,s,ai,c,f,ap⟩;rcases o with _ | ⟨eg,o⟩
  · obtain rfl:=Fn s;have a7:=Do aq c5;refine S (G (R q 1 c j fun a c=>E (T (S ?_))));have c:=c.tr (t:=85) j (decide_eq_false (by omega))
    refine Fa c j (Ex (Xe (Xe (Xh (T (⟨_,z,al,ad,ae,j,ai,c.kp j,f,ap⟩))))))
  obtain ⟨ef,d,s⟩:=Fs s;obtain ⟨ea,aq,a7⟩:=Dc aq;unfold schema_Catalog_hide.b0 at d;refine S (G (R q 1 c j fun a c=>E (T (S ?_))))
  have c:=c.tr (t:=85) j (decide_eq_true (by omega));refine Tr c j (K (T (S (O (S (G ?_))))));obtain ⟨eh,aj,d⟩:=bd d
  obtain ⟨be,rfl⟩:=row_ptr 0 f j j (Go aj).2;obtain ⟨d3,d7,c7,c3⟩:=Rt ap (Go aj).2;obtain rfl:=rep_int.1 c7
  refine L f c j (I q (Ro (Go aj).1 (Go aj).2 be 1) j j j) j fun a c=>L f c j (f_loadR q 0 j c3 0 j j j j (Rl ap (Go aj).2)) j fun a c=>R q 1 c j fun a c=>E (T (S (Cd mixed (by kernel_rfl) f (Y q 3 c j fun a c=>Z c j (B q 2 j j j j) j fun a c=>Y q 3 c j fun a c=>Z c j (B q 3 j j j j) j fun a c=>Y q 1 c j fun a c=>?_))))
  obtain ⟨ei,bl,d⟩:=bd d;obtain ⟨dv,ed,cs,c1,cw,cn⟩:=Sa (bh.m (((g.t i).t aa).t ai)) (Go bl).1 (Go bl).2;obtain rfl:=TField.inv.1 cw
  refine Z c j (I q c1 j j j) j fun a c=>Y q 1 c j fun a c=>Z c j (Fg q cn 3 j j j j) j fun a c=>Y q 3 c j fun a c=>Z c j (B q 3 j j j j) j fun a c=>?_
  obtain ⟨dh,da,d⟩:=bd d
  refine Qc cl_36 c j j (fun w f=>(lattice_Lattice_Leq.ok k) da f.pass0 (az.m (((g.t i).t aa).t ai))) (fun _ _ _ h=>h.2) j fun a c=>Y q 1 c j fun a c=>Qe ?_
  intro w f;refine T (Cc (b:=!dh) c j (fun a0=>?_) (fun a0=>?_));rotate_left
  · replace d:=cf a0 d;refine K (xB (T (G (R q 2 c j fun a c=>E (T ?_)))));cases d;have c:=c.setI (t:=84) j (Wc a7 c6)
    exact ⟨o.length,Nat.lt_succ_self _,i256 + 1,o,_,z,(p_ be),ad,ae,j,a7,aq,s,ai,c.kp j,f,ap⟩
  replace d:=ct a0 d;refine S (G (R q 1 c j fun a c=>E (T (V (Xb (Xr (Xr (Xb (Xr (Xr ?_))))))))));cases d;obtain rfl:=Nr s;have d:=Le bj;cases d
  refine N (v:=_) c j ⟨_,_,_,j,(f.pick [2,3] (by decide) j),l,m,j,j,(n.m (((g.t i).t aa).t ai))⟩

theorem cl_39:Callable Tryz.prog 39:=⟨_,Tryz.func39,by kernel_rfl,by kernel_rfl⟩

def schema_Catalog_table.C (s:Tschema_Catalog→TTable→Option (Int × Tschema_Catalog)):Prop:=∀ {b y r},s b y=some r→∀ {e c o i h n p u d x z f l g m t},Inv e c o c [.blk i [.pointer h,.slice n b.tables_.length p,.map (some d),.slice f b.channels_.length l,.slice g b.principals_.length m,i_ b.limit_] 111,.row (.slice n b.tables_.length p) 43 6 b.tables_.length u,.map d x z] e→(Pt c h 160 Tlattice_Lattice.d b.lattice_)→(RL c 6 (b.tables_.map TRelation.d) u)→(RM c false D.str di b.at_ x.toList)→(Sl c f l 2 (b.channels_.map TNamed.d))→(Sl c g m 2 (b.principals_.map TNamed.d))→(Rep c y.d t)→Calls Tryz.prog 39 #[(P i),.agg ⟨t⟩] e (Ret e c o fun G' L' v=>∃ A0_1 c0_1 e0_1 e0_2 c0_2,L'=[.blk i [.pointer h,.slice A0_1 r.2.tables_.length c0_1,.map (some d),.slice f b.channels_.length l,.slice g b.principals_.length m,i_ b.limit_] 111,.row (.slice A0_1 r.2.tables_.length c0_1) 43 6 r.2.tables_.length e0_1,.map d e0_2 c0_2]∧v=i_ r.1∧RL G' 6 (r.2.tables_.map TRelation.d) e0_1∧RM G' false D.str di r.2.at_ e0_2.toList)

theorem schema_Catalog_table.ok (k:Nat):schema_Catalog_table.C (schema_Catalog_table k):=by
  intro aa p r l bp ar be bq ch ag ah am bv ap ao ce cl cg cm eu g b2 aw aq ew ex dy
  unfold schema_Catalog_table at l
  obtain ⟨a1,a6,a2,a8,a4,a9,rfl,bb,bs,bt⟩:=TTable.inv.1 dy
  refine Ci 119 Tryz.func39 j j j fun a c=>?_
  
  refine S (G (s_box g c j j j j fun a w av c g=>s_box g c j j j j fun a w ak c g=>R q 1 c j fun a c=>E (T (S (G (R q 1 c j fun a c=>L g c j (B q 0 j j j j) j fun a c=>L g c j (Bd q j z_43 j j) j fun a c=>A g c j z_43 j j fun a w al c g=>W q 0 g c j j j j j j j j j j fun a w c g=>E (T (S (S ?_)))))))))
  obtain ⟨c0,l,d4⟩:=bd l;refine X c g (fun e L a' w'=>∃ a5,ar.le a5∧Env a' 119 (sl e [2,3,5] [(28,.bool c0)])∧Inv bp ar be a5 L w') ?_ ?_
  · refine G (R q 1 c j fun a c=>L g c j (B q 1 j j j j) j fun a c=>R q 3 c j fun a c=>?_)
    rcases Bo (decide ((p.Cols.length:Int)=(0:Int))) with bm | bm
    · replace l:=ct bm l;have c:=c.tr (t:=23) j bm;refine R q 5 c j fun a c=>E (T ?_);cases l;exact ⟨ar,rf,c.kp j,g⟩
    replace l:=cf bm l;have c:=c.tr (t:=23) j bm;refine R q 1 c j fun a c=>L g c j (B q 1 j j j j) j fun a c=>R q 3 c j fun a c=>E (T ?_)
    cases l;exact ⟨ar,rf,c.kp j,g⟩
  rintro a w ⟨a5,m,c,g⟩;have l:=d4;refine T (Cc (b:=c0) c j (fun cb=>?_) (fun cb=>?_))
  · replace l:=ct cb l;refine S (G (R q 1 c j fun a c=>E (T (V (Xr ?_)))));cases l
    refine N (v:=_) c j ⟨_,_,_,j,(g.pick [3,4,5] (by decide) j),ag,ah,am,ap,ao,j,j,(aw.m m),(aq.m m)⟩
  replace l:=cf cb l
  refine K (T (S (S (Cd mixed (by kernel_rfl) g (Z c j (B q 2 j j j j) j fun a c=>Y q 2 c j fun a c=>Z c j (B q 3 j j j j) j fun a c=>Y q 1 c j fun a c=>Z c j (B q 1 j j j j) j fun a c=>?_)))))
  obtain ⟨dd,u51,ec,eg,ee⟩:=f_lookM key_str 5 j (aq.m m) um_109 uk_9 true c (L:=[.blk al [.string p.Name,i_ (0:Int),.slice none 0 0,.slice none 0 0,i_ (-1:Int),.slice none 0 0] 43,.blk ak [.string p.Name,.string p.Rows,.slice a1 p.Cols.length a6,.slice a2 p.Key.length a8,.string p.Hide,.slice a4 p.When.length a9] 114,.blk av [(P bq)] 27,.blk bq [.pointer ch,.slice ag aa.tables_.length ah,.map (some bv),.slice ce aa.channels_.length cl,.slice cg aa.principals_.length cm,i_ aa.limit_] 111,.row (.slice ag aa.tables_.length ah) 43 6 aa.tables_.length am,.map bv ap ao]) (x:=.tmp 33) (y:=.tmp 35) j j z_3 (rep_int.2 j) j
  obtain rfl:dd=[u51]:=eg;obtain rfl:=rep1_int.1 ec;refine Z c j (ee _ _ _) j fun a c=>Y q 5 c j fun a c=>Qe ?_;intro w g;refine T (S ?_);obtain ⟨c1,l,d6⟩:=bd l
  refine X c g (fun e L a' w'=>∃ au,a5.le au∧Env a' 119 (sl e [2,3,5] [(44,.bool c1)])∧Inv bp ar be au L w') ?_ ?_
  · refine G (R q 2 c j fun a c=>?_);rcases Bo ((mget aa.at_ p.Name).isSome) with bl | bl
    · replace l:=ct bl l;have c:=c.tr (t:=40) j bl;refine R q 4 c j fun a c=>E (T ?_);cases l;exact ⟨a5,rf,c.kp j,g⟩
    replace l:=cf bl l;have c:=c.tr (t:=40) j bl;refine R q 1 c j fun a c=>L g c j (B q 1 j j j j) j fun a c=>R q 2 c j fun a c=>E (T ?_)
    cases l;exact ⟨a5,rf,c.kp j,g⟩
  rintro a w ⟨au,n,c,g⟩;have l:=d6;refine T (Cc (b:=c1) c j (fun ca=>?_) (fun ca=>?_))
  · replace l:=ct ca l;refine S (G (R q 1 c j fun a c=>E (T (V (Xr ?_)))));cases l
    refine N (v:=_) c j ⟨_,_,_,j,(g.pick [3,4,5] (by decide) j),ag,ah,am,ap,ao,j,j,(aw.m (m.t n)),(aq.m (m.t n))⟩
  replace l:=cf ca l;refine K (T (S (G (s_makeMap g c j j fun a w bw c g=>?_))))
  have du:RM au false D.str di ([]:List (ByteArray × Int)) (#[]:Array MapEntry).toList:=RM.nil
  refine A g c j z_109 j j fun a w bh c g=>W q 0 g c j j j j j j j j j j fun a w c g=>E (T (S (S (G (R q 1 c j fun a c=>L g c j (B q 3 j j j j) j fun a c=>R q 2 c j fun a c=>E (T ?_))))))
  have g:=g.nilrow 52 4;have dv:RL au 4 (([]:List TField).map TField.d) []:=Rn;obtain ⟨c2,az,cv⟩:=bd l
  refine X c g (fun e L a' w'=>∃ a0 bf bx bz b0 b1 cq,c2 = .go a0∧au.le bf∧Env a' 119 (sl e [2,3,5,8] [])∧Inv bp ar be bf [.row (.slice bx a0.1.length bz) 52 4 a0.1.length b0,nt L 1,.map bw b1 cq,.blk al [.string p.Name,i_ (0:Int),.slice bx a0.1.length bz,.slice none 0 0,i_ (-1:Int),.slice none 0 0] 43,nt L 4,nt L 5,nt L 6,nt L 7,nt L 8] w'∧RL bf 4 (a0.1.map TField.d) b0∧RM bf false D.str di a0.2 b1.toList) ?_ ?_
  ·
    refine O (Q c g (fun e L n' a' w'=>∃ i411 ax ae an a3 a7 ba bi br,n'=List.length ax∧i411≤p.Cols.length∧p.Cols.drop i411=ax∧forL (schema_Catalog_table.b0 k aa) i411 ax ae=some c2∧au.le an∧Env a' 119 (sl e [2,3,5,8,47,48] [(49,i_ (i411:Int))])∧Inv bp ar be an [.row (.slice a3 ae.1.length a7) 52 4 ae.1.length ba,nt L 1,.map bw bi br,.blk al [.string p.Name,i_ (0:Int),.slice a3 ae.1.length a7,.slice none 0 0,i_ (-1:Int),.slice none 0 0] 43,nt L 4,nt L 5,nt L 6,nt L 7,nt L 8] w'∧RL an 4 (ae.1.map TField.d) ba∧RM an false D.str di ae.2 bi.toList) _ ⟨0,_,_,au,none,0,[],#[],0,j,Nat.zero_le _,j,az,rf,c.kp j,g,dv,du⟩ ?_)
    rintro ey a w ⟨i411,ax,ae,an,a3,a7,ba,bi,br,rfl,ea,bu,az,bn,c,g,cw,b4⟩;rcases ax with _ | ⟨ac,ax⟩
    · obtain rfl:=Fn az;have cd:=Do bu ea;refine S (G (R q 1 c j fun a c=>E (T (S ?_))));have c:=c.tr (t:=50) j (decide_eq_false (by omega))
      refine Fa c j (Ex (Xe (Xe (Xh (T (⟨_,an,a3,a7,ba,bi,br,j,bn,c.kp j,g,cw,b4⟩))))))
    obtain ⟨e0,l,az⟩:=Fs az;obtain ⟨eh,bu,cd⟩:=Dc bu;unfold schema_Catalog_table.b0 at l;refine S (G (R q 1 c j fun a c=>E (T (S ?_))))
    have c:=c.tr (t:=50) j (decide_eq_true (by omega));refine Tr c j (K (T (S (O (S (G (R q 1 c j fun a c=>?_)))))))
    obtain ⟨er,ez,cs,d8,d2,dm⟩:=Sa (bb.m ((m.t n).t bn)) (Int.natCast_nonneg _) (natIdx eh);obtain rfl:=TCol.inv.1 d2
    refine L g c j (I q d8 j j j) j fun a c=>L g c j (Fg q dm 0 j j j j) j fun a c=>A g c j z_165 j j fun a w c9 c g=>R q 1 c j fun a c=>W q 0 g c j j j j j j j j j j fun a w c g=>E (T (S (S (G (L g c j (B q 2 j j j j) j fun a c=>R q 1 c j fun a c=>L g c j (B q 0 j j j j) j fun a c=>?_)))))
    obtain ⟨db,u429,eb,ef,ed⟩:=f_lookM key_str 3 j b4 um_109 uk_9 true c (L:=[.blk c9 [.string ac.Name,i_ ac.Type_,.bool ac.Null,.string ac.Level] 165,.row (.slice a3 ae.1.length a7) 52 4 ae.1.length ba,.blk bh [.map (some bw)] 109,.map bw bi br,.blk al [.string p.Name,i_ (0:Int),.slice a3 ae.1.length a7,.slice none 0 0,i_ (-1:Int),.slice none 0 0] 43,.blk ak [.string p.Name,.string p.Rows,.slice a1 p.Cols.length a6,.slice a2 p.Key.length a8,.string p.Hide,.slice a4 p.When.length a9] 114,.blk av [(P bq)] 27,.blk bq [.pointer ch,.slice ag aa.tables_.length ah,.map (some bv),.slice ce aa.channels_.length cl,.slice cg aa.principals_.length cm,i_ aa.limit_] 111,.row (.slice ag aa.tables_.length ah) 43 6 aa.tables_.length am,.map bv ap ao]) (x:=.tmp 55) (y:=.tmp 57) j j z_3 (rep_int.2 j) j
    obtain rfl:db=[u429]:=ef;obtain rfl:=rep1_int.1 eb;refine L g c j (ed _ _ _) j fun a c=>R q 5 c j fun a c=>E (T (S ?_));obtain ⟨cz,l,d3⟩:=bd l
    refine X c g (fun e L a' w'=>∃ bg,an.le bg∧Env a' 119 (sl e [2,3,5,8,9,10,47,48,49] [(66,.bool cz)])∧Inv bp ar be bg L w') ?_ ?_
    · refine G (R q 2 c j fun a c=>?_);rcases Bo ((mget ae.2 ac.Name).isSome) with bk | bk
      · replace l:=ct bk l;have c:=c.tr (t:=62) j bk;refine R q 4 c j fun a c=>E (T ?_);cases l;exact ⟨an,rf,c.kp j,g⟩
      replace l:=cf bk l;have c:=c.tr (t:=62) j bk;refine R q 1 c j fun a c=>L g c j (B q 0 j j j j) j fun a c=>R q 2 c j fun a c=>E (T ?_)
      cases l;exact ⟨an,rf,c.kp j,g⟩
    rintro a w ⟨bg,bo,c,g⟩;have l:=d3;refine T (Cc (b:=cz) c j (fun b9=>?_) (fun b9=>?_))
    · replace l:=ct b9 l;refine S (G (R q 1 c j fun a c=>E (T (V (Xr (Xb (Xr (Xr (Xb (Xr (Xr ?_)))))))))));cases l;obtain rfl:=Nr az;have l:=Le cv;cases l
      refine N (v:=_) c j ⟨_,_,_,j,(g.pick [7,8,9] (by decide) j),ag,ah,am,ap,ao,j,j,(aw.m (((m.t n).t bn).t bo)),(aq.m (((m.t n).t bn).t bo))⟩
    replace l:=cf b9 l
    refine K (T (S (G (L g c j (B q 2 j j j j) j fun a c=>R q 1 c j fun a c=>L g c j (B q 0 j j j j) j fun a c=>R q 1 c j fun a c=>s_mapUpd (v:=(i411:Int)) key_str 3 g c j j (b4.m bo) um_109 uk_9 j j j (rep_int.2 j) j fun a w dh df c dt g=>E (T (G (R q 1 c j fun a c=>L g c j (B q 4 j j j j) j fun a c=>R q 1 c j fun a c=>L g c j (B q 0 j j j j) j fun a c=>R q 1 c j fun a c=>L g c j (B q 0 j j j j) j fun a c=>R q 1 c j fun a c=>L g c j (B q 0 j j j j) j fun a c=>L g c j (Bd q j z_52 j j) j fun a c=>Bs ai_39 g c j j j j j fun a w es c g=>?_)))))))
    have cy:RL bg 4 ([(TField.mk ac.Name ac.Type_ ac.Null (0:Int))].map TField.d) _:=(Rc (TField.inv.2 j) j Rn);obtain ⟨_,d9,l⟩:=bd l
    refine Ao (f:=TField.d) (xs:=ae.1) (ys:=[(TField.mk ac.Name ac.Type_ ac.Null (0:Int))]) ai_39 2 0 g c j j j cy j j (Ll d9) j fun a w c5 dc c g=>?_
    have d5:=Ra (cw.m bo) cy
    refine R q 1 c j fun a c=>W q 5 g c j j j j j j j j j j fun a w c g=>E (xB (T (G (R q 2 c j fun a c=>E (T ?_)))));cases l
    have c:=c.setI (t:=49) j (Wc cd (Ln bb))
    exact ⟨ax.length,Nat.lt_succ_self _,i411 + 1,ax,_,bg,c5,dc,(ba ++ [.string ac.Name,i_ ac.Type_,.bool ac.Null,i_ (0:Int)]),dh,df,j,cd,bu,az,(bn.t bo),c.kp j,(g.dropN 2 j),d5,dt⟩
  rintro a w ⟨a0,bf,bx,bz,b0,b1,cq,rfl,o,c,g,dw,dr⟩;have l:=Lg cv
  refine T (S (S (G (L g c j (f_mkfn j) j fun a c=>L g c j (f_mkfn j) j fun a c=>L g c j (f_mkfn j) j fun a c=>L g c j (f_mkfn j) j fun a c=>L g c j (f_buildA4 q ua_172 j z_172 j j j j j) j fun a c=>R q 1 c j fun a c=>E (T (O (c_rounds 5 (S (G (R q 1 c j fun a c=>E (T (S (Tr c j (K (T (S (O (S (G (L g c j (f_indexA (i:=0) q ua_172 j j j j j) j fun a c=>R q 1 c j fun a c=>E (T (S (G (R q 1 c j fun a c=>?_))))))))))))))))))))))))
  obtain ⟨c3,ei,l⟩:=bd l
  refine Cv (S:=fun _ L' u=>L'=[]∧u=i_ c3) g c j j j (by obtain ⟨c6,cc,g,dl⟩:=(g.front 4).giveB;have dj:Pt c6 (p_ ak) 114 TTable.d (some p):=Pm (TTable.inv.2 ⟨a1,a6,a2,a8,a4,a9,j,(bb.m (((m.t n).t o).t cc)),(bs.m (((m.t n).t o).t cc)),(bt.m (((m.t n).t o).t cc))⟩) dl;exact ⟨_,70,[(P ak)],j,cl_70,(schema_Catalog_table_1.ok k) ei g.pass0 dj⟩) (fun _ _ _ h=>h.2) j ?_
  intro a w g c;refine R q 1 c j fun a c=>E (T (S (G (R q 2 c j fun a c=>E (T (Cc (b:=!decide (c3=(0:Int))) c j (fun b8=>?_) (fun b8=>?_)))))))
  · replace l:=ct b8 l;refine S (G (R q 2 c j fun a c=>E (T (V (Xb (Xr (xNr (Xb (Xr ?_)))))))));cases l
    refine N (v:=_) c j ⟨_,_,_,j,(g.pick [6,7,8] (by decide) j),ag,ah,am,ap,ao,j,j,(aw.m ((m.t n).t o)),(aq.m ((m.t n).t o))⟩
  replace l:=cf b8 l
  refine K (xB (T (G (R q 2 c j fun a c=>E (xN (c_round (S (G (R q 1 c j fun a c=>E (T (S (Tr c j (K (T (S (O (S (G (L g c j (f_indexA (i:=1) q ua_172 j j j j j) j fun a c=>R q 1 c j fun a c=>E (T (S (G (R q 1 c j fun a c=>s_inl Tryz.func72 j cl_72 c j j j ?_)))))))))))))))))))))))
  have dn:=c
  have c:Env _ 7 [(0,(P av)),(1,(P ak)),(2,(P al))]:=Env.start ⟨[(P av),(P ak),(P al)]⟩ 4
  refine S (G (R q 1 c j fun a c=>E (T (S (G (L g c j (B q 5 j j j j) j fun a c=>L g c j (B q 4 j j j j) j fun a c=>?_))))))
  have g:=g.pick [6,3,0,1,2,4,5,7,8] (by decide) j;obtain ⟨af,ej,l⟩:=bd l
  refine M 3 cl_73 g c j j (fun bj=>(schema_Catalog_levels.ok k) ej bj (b2.m ((m.t n).t o)) (TTable.inv.2 ⟨a1,a6,a2,a8,a4,a9,j,(bb.m ((m.t n).t o)),(bs.m ((m.t n).t o)),(bt.m ((m.t n).t o))⟩) dw) j ?_
  rintro a w _ em _ ⟨ci,cn,et,rfl,rfl,dx⟩ z g c;refine R q 1 c j fun a c=>E (T (V (N (v:=i_ af.1) c j ⟨_,j,?_⟩)))
  have c:=dn.put (d:=93) j (i_ af.1)
  refine R q 1 c j fun a c=>E (T (S (G (R q 2 c j fun a c=>E (T (Cc (b:=!decide (af.1=(0:Int))) c j (fun b7=>?_) (fun b7=>?_)))))))
  · replace l:=ct b7 l;refine S (G (R q 2 c j fun a c=>E (T (V (Xb (Xr (xNr (Xb (Xr ?_)))))))));cases l
    refine N (v:=_) c j ⟨_,_,_,j,(g.pick [0,7,8] (by decide) j),ag,ah,am,ap,ao,j,j,(aw.m (((m.t n).t o).t z)),(aq.m (((m.t n).t o).t z))⟩
  replace l:=cf b7 l
  refine K (xB (T (G (R q 2 c j fun a c=>E (xN (c_round (S (G (R q 1 c j fun a c=>E (T (S (Tr c j (K (T (S (O (S (G (L g c j (f_indexA (i:=2) q ua_172 j j j j j) j fun a c=>R q 1 c j fun a c=>E (T (S (G (R q 1 c j fun a c=>s_inl Tryz.func74 j cl_74 c j j j ?_)))))))))))))))))))))))
  have dp:=c
  have c:Env _ 9 [(0,(P av)),(1,(P ak)),(2,(P al)),(3,(P bh))]:=Env.start ⟨[(P av),(P ak),(P al),(P bh)]⟩ 5
  refine S (G (R q 1 c j fun a c=>E (T (S (G (L g c j (B q 6 j j j j) j fun a c=>L g c j (B q 5 j j j j) j fun a c=>L g c j (B q 3 j j j j) j fun a c=>?_))))))
  obtain ⟨c7,ab,g,b3⟩:=(g.front 2).giveR (xs:=af.2.2.Cols.map TField.d) (by simp) dx;have g:=g.nilrow 3 1;have dz:RL c7 1 (([]:List Int).map di) []:=Rn
  obtain ⟨en,s,g,cr⟩:=(g.front 4).giveM (dr.m (z.t ab));have g:=g.pick [1,2,0,3,4,5,6,7] (by decide) j;obtain ⟨ay,ek,l⟩:=bd l
  refine M 3 cl_75 g c j j (fun bj=>(schema_Catalog_key.ok k) ek bj (b2.m (((((m.t n).t o).t z).t ab).t s)) (TTable.inv.2 ⟨a1,a6,a2,a8,a4,a9,j,(bb.m (((((m.t n).t o).t z).t ab).t s)),(bs.m (((((m.t n).t o).t z).t ab).t s)),(bt.m (((((m.t n).t o).t z).t ab).t s))⟩) (b3.m s) (dz.m s) cr) j ?_
  rintro a w _ eo _ ⟨cj,co,ev,rfl,rfl,d0⟩ ad g c;refine R q 1 c j fun a c=>E (T (V (N (v:=i_ ay.1) c j ⟨_,j,?_⟩)))
  have c:=dp.put (d:=93) j (i_ ay.1)
  refine R q 1 c j fun a c=>E (T (S (G (R q 2 c j fun a c=>E (T (Cc (b:=!decide (ay.1=(0:Int))) c j (fun b6=>?_) (fun b6=>?_)))))))
  · replace l:=ct b6 l;refine S (G (R q 2 c j fun a c=>E (T (V (Xb (Xr (xNr (Xb (Xr ?_)))))))));cases l
    refine N (v:=_) c j ⟨_,_,_,j,(g.pick [0,6,7] (by decide) j),ag,ah,am,ap,ao,j,j,(aw.m ((((((m.t n).t o).t z).t ab).t s).t ad)),(aq.m ((((((m.t n).t o).t z).t ab).t s).t ad))⟩
  replace l:=cf b6 l
  refine K (xB (T (G (R q 2 c j fun a c=>E (xN (c_round (S (G (R q 1 c j fun a c=>E (T (S (Tr c j (K (T (S (O (S (G (L g c j (f_indexA (i:=3) q ua_172 j j j j j) j fun a c=>R q 1 c j fun a c=>E (T (S (G (R q 1 c j fun a c=>s_inl Tryz.func76 j cl_76 c j j j ?_)))))))))))))))))))))))
  have dq:=c
  have c:Env _ 9 [(0,(P av)),(1,(P ak)),(2,(P al)),(3,(P bh))]:=Env.start ⟨[(P av),(P ak),(P al),(P bh)]⟩ 5
  refine S (G (R q 1 c j fun a c=>E (T (S (G (L g c j (B q 5 j j j j) j fun a c=>L g c j (B q 4 j j j j) j fun a c=>L g c j (B q 3 j j j j) j fun a c=>?_))))))
  obtain ⟨ep,ai,g,cu⟩:=(g.front 2).giveR (xs:=ay.2.2.Key.map di) (by simp) d0;obtain ⟨aj,el,l⟩:=bd l
  refine M 2 cl_77 g c j j (fun bj=>(schema_Catalog_hide.ok k) el bj (b2.m (((((((m.t n).t o).t z).t ab).t s).t ad).t ai)) (TTable.inv.2 ⟨a1,a6,a2,a8,a4,a9,j,(bb.m (((((((m.t n).t o).t z).t ab).t s).t ad).t ai)),(bs.m (((((((m.t n).t o).t z).t ab).t s).t ad).t ai)),(bt.m (((((((m.t n).t o).t z).t ab).t s).t ad).t ai))⟩) (b3.m ((s.t ad).t ai)) cu (Sn _ _ _ _ (Nat.zero_le _)) (cr.m (ad.t ai))) j ?_
  rintro a w _ c8 _ ⟨ck,cp,rfl,rfl,dk⟩ bc g c;refine R q 1 c j fun a c=>E (T (V (N (v:=i_ aj.1) c j ⟨_,j,?_⟩)))
  have c:=dq.put (d:=93) j (i_ aj.1)
  refine R q 1 c j fun a c=>E (T (S (G (R q 2 c j fun a c=>E (T (Cc (b:=!decide (aj.1=(0:Int))) c j (fun b5=>?_) (fun b5=>?_)))))))
  · replace l:=ct b5 l;refine S (G (R q 2 c j fun a c=>E (T (V (Xb (Xr (xNr (Xb (Xr ?_)))))))));cases l
    refine N (v:=_) c j ⟨_,_,_,j,(g.pick [0,5,6] (by decide) j),ag,ah,am,ap,ao,j,j,(aw.m ((((((((m.t n).t o).t z).t ab).t s).t ad).t ai).t bc)),(aq.m ((((((((m.t n).t o).t z).t ab).t s).t ad).t ai).t bc))⟩
  replace l:=cf b5 l
  refine K (xB (T (G (R q 2 c j fun a c=>E (xN (c_round (S (G (R q 1 c j fun a c=>E (T (S (Fa c j (Ex (Xe (xNe (Xh (T (S (Mx [0,3,4] [11] (.step 0 1 (.step 1 0 (.step 2 0 (.step 3 1 (.step 4 0 (.step 5 1 (.step 6 1 (.step 7 0 (.step 8 0 (.step 9 1 (.step 10 0 (.step 11 3 .nil)))))))))))) mixed (mixF_all (by kernel_rfl)) g (by decide) j fun w g hS=>Dd hS c j j (Rw fun _=>(B q 2 j j j j)) j fun a c=>H q 2 c j fun a c=>Dd hS c j j (Rw fun _=>(B q 0 j j j j)) j fun a c=>H q 1 c j fun a c=>Dd hS c j j (Rw fun _=>(B q 1 j j j j)) j fun a c=>Dd hS c j j (Rw fun _=>(B q 2 j j j j)) j fun a c=>H q 2 c j fun a c=>Dd hS c j j (Rw fun _=>(B q 0 j j j j)) j fun a c=>H q 1 c j fun a c=>Dl j (s_mapUpd (v:=(aa.tables_.length:Int)) key_str 6 g c j j (aq.m ((((((((m.t n).t o).t z).t ab).t s).t ad).t ai).t bc)) um_109 uk_9 j j j (rep_int.2 j) j fun a w dg de c ds g=>Dn (Dz (T (S (Mx [0,1,4] [10] (.step 0 1 (.step 1 1 (.step 2 0 (.step 3 0 (.step 4 1 (.step 5 1 (.step 6 2 (.step 7 2 (.step 8 0 (.step 9 0 (.step 10 3 .nil))))))))))) mixed (mixF_all (by kernel_rfl)) g (by decide) j fun w g hS=>Dd hS c j j (Rw fun _=>(B q 2 j j j j)) j fun a c=>Dd hS c j j (Rw fun _=>(B q 2 j j j j)) j fun a c=>H q 2 c j fun a c=>Dd hS c j j (Rw fun _=>(B q 0 j j j j)) j fun a c=>Dd hS c j j (Rw fun _=>(B q 1 j j j j)) j fun a c=>Df j (Bs ai_33 g c j j j j j fun a w eq c g=>?_)))))))))))))))))))))))))
  have cx:RL c8 6 ([(TRelation.mk p.Name af.2.2.Rows af.2.2.Cols ay.2.2.Key aj.2.2.Hide aj.2.2.When)].map TRelation.d) _:=(Rc ((TRelation.inv (x:=(TRelation.mk p.Name af.2.2.Rows af.2.2.Cols ay.2.2.Key aj.2.2.Hide aj.2.2.When))).2 ⟨ci,cn,cj,co,ck,cp,j,(b3.m (((s.t ad).t ai).t bc)),(cu.m bc),dk⟩) j Rn)
  refine De (g.sw [1,2,5] (by decide) j rf) fun hS=>Df j ?_;obtain ⟨_,d7,l⟩:=bd l
  refine Ao (f:=TRelation.d) (xs:=aa.tables_) (ys:=[(TRelation.mk p.Name af.2.2.Rows af.2.2.Cols ay.2.2.Key aj.2.2.Hide aj.2.2.When)]) ai_33 6 0 g c j j j cx j j (Ll d7) j fun a w c4 da c g=>?_
  have d1:=Ra (aw.m ((((((((m.t n).t o).t z).t ab).t s).t ad).t ai).t bc)) cx
  refine De (g.sw [1,2,5] (by decide) j rf) fun hS=>H q 2 c j fun a c=>Dl j (W q 1 g c j j j j j j j j j j fun a w c g=>Dn (Dz (T (S (G (R q 1 c j fun a c=>E (T (V ?_))))))))
  cases l
  refine N (v:=_) c j ⟨_,_,_,j,(g.pick [1,6,7] (by decide) j),c4,da,(am ++ [.string p.Name,i_ af.2.2.Rows,.slice ci af.2.2.Cols.length cn,.slice cj ay.2.2.Key.length co,i_ aj.2.2.Hide,.slice ck aj.2.2.When.length cp]),dg,de,j,j,d1,ds⟩

theorem cl_114:Callable Tryz.prog 114:=⟨_,Tryz.func114,by kernel_rfl,by kernel_rfl⟩

def slices_IndexFunc_api_Named_api_Named.C (s:(List TNamed)→(TNamed→Option Bool)→Option Int):Prop:=∀ {d h r},s d h=some r→∀ {c b e g f},Inv c b [] b [] c→(Sl b e g 2 (d.map TNamed.d))→(Fk174 b f h)→Calls Tryz.prog 114 #[.slice e d.length g,f] c (Ret c b [] fun G' L' v=>L'=[]∧v=i_ r)

theorem slices_IndexFunc_api_Named_api_Named.ok (k:Nat):slices_IndexFunc_api_Named_api_Named.C (slices_IndexFunc_api_Named_api_Named k):=by
  intro ab an r d ae l ao ar ap f y aj
  unfold slices_IndexFunc_api_Named_api_Named at d
  refine Ci 19 Tryz.func114 j j j fun a c=>?_
  refine S (G (R q 1 c j fun a c=>E (T (S (S (G (R q 3 c j fun a c=>E (T ?_))))))));obtain ⟨aa,i,z⟩:=bd d
  refine X c f (fun e L a' w'=>∃ ad p,aa = .go ad∧l.le p∧Env a' 19 []∧Inv ae l [] p L w') ?_ ?_;rotate_left
  · rintro a w ⟨ad,p,rfl,au,c,f⟩;have d:=Lg z;refine T (S (G (R q 1 c j fun a c=>E (T (V ?_)))));cases d;refine N (v:=_) c j ⟨_,_,_,j,f.nil,j,j⟩
  
  refine O (Q c f (fun e L n' a' w'=>∃ i31 g ac m,n'=List.length g∧i31≤ab.length∧ab.drop i31=g∧forL (slices_IndexFunc_api_Named_api_Named.b0 k an) i31 g ac=some aa∧l.le m∧Env a' 19 (sl e [0,1,7] [(8,i_ (i31:Int))])∧Inv ae l [] m L w') _ ⟨0,_,_,l,j,Nat.zero_le _,j,i,rf,c.kp j,f⟩ ?_)
  rintro av a w ⟨i31,g,ac,m,rfl,ak,n,i,o,c,f⟩;rcases g with _ | ⟨ay,g⟩
  · obtain rfl:=Fn i;have x:=Do n ak;refine S (G (R q 1 c j fun a c=>E (T (S ?_))));have c:=c.tr (t:=9) j (decide_eq_false (by omega))
    refine Fa c j (Ex (Xe (Xe (Xh (T (⟨_,m,j,o,c.kp j,f⟩))))))
  obtain ⟨ax,d,i⟩:=Fs i;obtain ⟨al,n,x⟩:=Dc n;unfold slices_IndexFunc_api_Named_api_Named.b0 at d;refine S (G (R q 1 c j fun a c=>E (T (S ?_))))
  have c:=c.tr (t:=9) j (decide_eq_true (by omega))
  refine Tr c j (K (T (S (O (S (G (R q 2 c j fun a c=>E (T (S (G (R q 3 c j fun a c=>?_)))))))))))
  obtain ⟨aq,aw,cs,ai,ah,ag⟩:=Sa (y.m o) (Int.natCast_nonneg _) (natIdx al);obtain rfl:=TNamed.inv.1 ah
  refine L f c j (I q ai j j j) j fun a c=>L f c j (Fg q ag 0 j j j j) j fun a c=>?_;obtain ⟨af,am,d⟩:=bd d
  refine Cv (S:=fun _ L' u=>L'=[]∧u = .bool af) f c j j j (by exact ⟨_,(aj.m o) _ _ am _ _ _ rf f.pass0 (TNamed.inv.2 j)⟩) (fun _ _ _ h=>h.2) j ?_;intro a w f c
  refine E (T (Cc (b:=af) c j (fun s=>?_) (fun s=>?_)));rotate_left
  · replace d:=cf s d;refine K (xB (T (G (R q 2 c j fun a c=>E (T ?_)))));cases d;have c:=c.setI (t:=8) j (Wc x (Ln y))
    exact ⟨g.length,Nat.lt_succ_self _,i31 + 1,g,_,m,j,x,n,i,o,c.kp j,f⟩
  replace d:=ct s d;refine S (G (R q 2 c j fun a c=>E (T (V (Xb (Xr (Xr (Xb (Xr (Xr ?_))))))))));cases d;obtain rfl:=Nr i;have d:=Le z;cases d
  refine N (v:=_) c j ⟨_,_,_,j,f.nil,j,j⟩

theorem cl_79:Callable Tryz.prog 79:=⟨_,Tryz.func79,by kernel_rfl,by kernel_rfl⟩

def slices_ContainsFunc_api_Named_api_Named.C (s:(List TNamed)→(TNamed→Option Bool)→Option Bool):Prop:=∀ {d h r},s d h=some r→∀ {c b e g f},Inv c b [] b [] c→(Sl b e g 2 (d.map TNamed.d))→(Fk174 b f h)→Calls Tryz.prog 79 #[.slice e d.length g,f] c (Ret c b [] fun G' L' v=>L'=[]∧v = .bool r)

theorem slices_ContainsFunc_api_Named_api_Named.ok (k:Nat):slices_ContainsFunc_api_Named_api_Named.C (slices_ContainsFunc_api_Named_api_Named k):=by
  intro p s r c t i h n m d e f
  unfold slices_ContainsFunc_api_Named_api_Named at c
  refine Ci 9 Tryz.func79 j j j fun a b=>?_
  refine S (G (R q 1 b j fun a b=>E (T (S (G (R q 2 b j fun a b=>?_))))));obtain ⟨u,g,c⟩:=bd c
  refine J cl_114 d b j j ((slices_IndexFunc_api_Named_api_Named.ok k) g d.pass0 e f) j ?_;rintro a w _ l _ ⟨rfl,rfl⟩ o d b;refine R q 2 b j fun a b=>E (T (V ?_));cases c
  refine N (v:=_) b j ⟨_,_,_,j,d.nil,j,j⟩

theorem cl_80:Callable Tryz.prog 80:=⟨_,Tryz.func80,by kernel_rfl,by kernel_rfl⟩

def schema_Catalog_named_1.C (s:TNamed→(Option TPair)→Option Bool):Prop:=∀ {f g r},s f g=some r→∀ {c b e d},Inv c b [] b [] c→(Rep b f.d e)→(Pt b d 94 TPair.d g)→Calls Tryz.prog 80 #[.agg ⟨e⟩,.pointer d] c (Ret c b [] fun G' L' v=>L'=[]∧v = .bool r)

theorem schema_Catalog_named_1.ok (k:Nat):schema_Catalog_named_1.C (schema_Catalog_named_1 k):=by
  intro s t r c u m p l d i f
  unfold schema_Catalog_named_1 at c
  obtain rfl:=TNamed.inv.1 i
  refine Ci 9 Tryz.func80 j j j fun a b=>?_
  
  refine S (G (s_box d b j j j j fun a w n b d=>R q 1 b j fun a b=>E (T (S (G (R q 1 b j fun a b=>L d b j (B q 0 j j j j) j fun a b=>?_))))))
  rcases (f).cases with ⟨e,rfl⟩ | ⟨x,o,cs,e,rfl,h,g⟩
  · cases op_n e c
  replace c:=op_s e c;obtain rfl:=TPair.inv.1 h;refine R q 1 b j fun a b=>L d b j (Fg q g 0 j j j j) j fun a b=>R q 2 b j fun a b=>E (T (V ?_))
  cases c;refine N (v:=_) b j ⟨_,_,_,j,d.nil,j,j⟩

theorem cl_40:Callable Tryz.prog 40:=⟨_,Tryz.func40,by kernel_rfl,by kernel_rfl⟩

def schema_Catalog_named.C (s:Tschema_Catalog→(List TPair)→Option ((List TNamed) × Int × Int × Tschema_Catalog)):Prop:=∀ {c g r},s c g=some r→∀ {d b l f e u4 u5 u6 u7 i n},Inv d b l b [.blk f [.pointer e,u4,u5,u6,u7,i_ c.limit_] 111] d→(Pt b e 160 Tlattice_Lattice.d c.lattice_)→(Sl b i n 2 (g.map TPair.d))→Calls Tryz.prog 40 #[(P f),.slice i g.length n] d (Ret d b l fun G' L' v=>∃ h m,L'=[.blk f [.pointer e,u4,u5,u6,u7,i_ c.limit_] 111]∧v = .tuple ⟨[.slice h r.1.length m,i_ r.2.1,i_ r.2.2.1]⟩∧Sl G' h m 2 (r.1.map TNamed.d))

theorem schema_Catalog_named.ok (k:Nat):schema_Catalog_named.C (schema_Catalog_named k):=by
  intro bm ay r g ao n aj bs bo u4 u5 u6 u7 bp bv d a5 aq
  unfold schema_Catalog_named at g
  refine Ci 52 Tryz.func40 j j j fun a c=>?_
  refine S (G (R q 3 c j fun a c=>E (T (S (G (R q 1 c j fun a c=>E (T (S (S (G (R q 3 c j fun a c=>E (T ?_))))))))))))
  have d:=d.nilrow 56 2;have be:RL n 2 (([]:List TNamed).map TNamed.d) []:=Rn;obtain ⟨ax,o,ar⟩:=bd g
  refine X c d (fun e L a' w'=>∃ p ad ac af ak,ax = .go p∧n.le ad∧Env a' 52 [(7,.slice ac p.length af)]∧Inv ao n aj ad [.row (.slice ac p.length af) 56 2 p.length ak,nt L 1] w'∧RL ad 2 (p.map TNamed.d) ak) ?_ ?_
  rotate_left
  · rintro a w ⟨p,ad,ac,af,ak,rfl,bx,c,d,a9⟩;have g:=Lg ar;refine T (S (G (R q 4 c j fun a c=>E (T ?_))))
    obtain ⟨bq,bz,d,a2⟩:=(d.front 0).giveR (xs:=p.map TNamed.d) (by simp) a9;refine V ?_;cases g;refine N (v:=_) c j ⟨_,_,_,j,d,ac,af,j,j,a2⟩
  
  refine O (Q c d (fun e L n' a' w'=>∃ i228 l m i ab ae x,n'=List.length l∧i228≤ay.length∧ay.drop i228=l∧forL (schema_Catalog_named.b0 k bm) i228 l m=some ax∧n.le i∧Env a' 52 (sl e [0,12,13] [(14,i_ (i228:Int)),(7,.slice ab m.length ae)])∧Inv ao n aj i [.row (.slice ab m.length ae) 56 2 m.length x,nt L 1] w'∧RL i 2 (m.map TNamed.d) x) _ ⟨0,_,_,n,none,0,[],j,Nat.zero_le _,j,o,rf,c.kp j,d,be⟩ ?_)
  rintro b1 a w ⟨i228,l,m,i,ab,ae,x,rfl,bi,ag,o,ah,c,d,al⟩;rcases l with _ | ⟨aa,l⟩
  · obtain rfl:=Fn o;have an:=Do ag bi;refine S (G (R q 1 c j fun a c=>E (T (S ?_))));have c:=c.tr (t:=15) j (decide_eq_false (by omega))
    refine Fa c j (Ex (Xe (Xe (Xh (T (⟨_,i,ab,ae,x,j,ah,c.kp j,d,al⟩))))))
  obtain ⟨b3,g,o⟩:=Fs o;obtain ⟨bj,ag,an⟩:=Dc ag;unfold schema_Catalog_named.b0 at g;refine S (G (R q 1 c j fun a c=>E (T (S ?_))))
  have c:=c.tr (t:=15) j (decide_eq_true (by omega));refine Tr c j (K (T (S (O (S (G (R q 1 c j fun a c=>?_)))))))
  obtain ⟨bt,b2,cs,bf,ba,a6⟩:=Sa (aq.m ah) (Int.natCast_nonneg _) (natIdx bj);obtain rfl:=TPair.inv.1 ba
  refine L d c j (I q bf j j j) j fun a c=>L d c j (Fg q a6 0 j j j j) j fun a c=>A d c j z_94 j j fun a w ap c d=>R q 1 c j fun a c=>W q 0 d c j j j j j j j j j j fun a w c d=>E (T (S (Cd mixed (by kernel_rfl) d (Y q 3 c j fun a c=>Z c j (B q 2 j j j j) j fun a c=>Y q 1 c j fun a c=>Z c j (B q 0 j j j j) j fun a c=>?_))))
  obtain ⟨ai,bk,g⟩:=bd g;refine Qc cl_78 c j j (fun w d=>(lattice_Lattice_Find.ok k) bk d.pass0 (a5.m ah)) (fun _ _ _ h=>h.2) j fun a c=>Y q 5 c j fun a c=>Qe ?_
  intro w d;refine T (S (S ?_));obtain ⟨aw,g,bb⟩:=bd g
  refine X c d (fun e L a' w'=>∃ s,i.le s∧Env a' 52 (sl e [0,7,8,9,10,12,13,14] [(40,.bool aw)])∧Inv ao n aj s L w') ?_ ?_
  · refine G (R q 3 c j fun a c=>?_);rcases Bo (!ai.2) with y | y
    · replace g:=ct y g;have c:=c.tr (t:=31) j y;refine R q 9 c j fun a c=>E (T ?_);cases g;exact ⟨i,rf,c.kp j,d⟩
    replace g:=cf y g;have c:=c.tr (t:=31) j y;refine R q 1 c j fun a c=>L d c j (B q 0 j j j j) j fun a c=>R q 3 c j fun a c=>?_
    rcases Bo (decide (aa.Low=(⟨#[]⟩:ByteArray))) with z | z
    · replace g:=ct z g;have c:=c.tr (t:=36) j z;refine R q 4 c j fun a c=>E (T ?_);cases g;exact ⟨i,rf,c.kp j,d⟩
    replace g:=cf z g;have c:=c.tr (t:=36) j z;refine R q 1 c j fun a c=>L d c j (f_mkfn j) j fun a c=>?_;obtain ⟨bn,bl,g⟩:=bd g
    refine Cl (S:=fun _ L' u=>L'=[]∧u = .bool bn) cl_79 d c j j (by obtain ⟨br,b0,d,a3⟩:=(d.front 1).giveR (xs:=m.map TNamed.d) (by simp) al;obtain ⟨a0,bh,d,a7⟩:=(d.front 0).giveB;have a4:Pt a0 (p_ ap) 94 TPair.d (some aa):=Pm (TPair.inv.2 j) a7;exact ⟨_,(slices_ContainsFunc_api_Named_api_Named.ok k) bl d.pass0 (a3.m bh) (by intro x0_ r_ hr_ w_ H_ bw hle_ hI_ a8;exact ⟨80,[(P ap)],j,cl_80,(schema_Catalog_named_1.ok k) hr_ hI_ a8 (a4.m hle_)⟩)⟩) (fun _ _ _ h=>h.2) j ?_
    intro a w d c;refine R q 1 c j fun a c=>E (T ?_);cases g;exact ⟨i,rf,c.kp j,d⟩
  rintro a w ⟨s,av,c,d⟩;have g:=bb;refine T (Cc (b:=aw) c j (fun am=>?_) (fun am=>?_))
  · replace g:=ct am g;refine S (G (R q 5 c j fun a c=>E (T (V (Xr (Xb (Xr (Xr (Xb (Xr (Xr ?_)))))))))));cases g;obtain rfl:=Nr o;have g:=Le ar;cases g
    refine N (v:=_) c j ⟨_,_,_,j,(d.pick [2] (by decide) j),none,0,j,j,(Sn _ _ _ _ (Nat.zero_le _))⟩
  replace g:=cf am g
  refine K (T (G (R q 2 c j fun a c=>L d c j (B q 0 j j j j) j fun a c=>R q 1 c j fun a c=>L d c j (Bd q j z_56 j j) j fun a c=>Bs ai_34 d c j j j j j fun a w bu c d=>?_)))
  have au:RL s 2 ([(TNamed.mk aa.Low ai.1)].map TNamed.d) _:=(Rc (TNamed.inv.2 j) j Rn);obtain ⟨_,bg,g⟩:=bd g
  refine Ao (f:=TNamed.d) (xs:=m) (ys:=[(TNamed.mk aa.Low ai.1)]) ai_34 2 0 d c j j j au j j (Ll bg) j fun a w az a1 c d=>?_;have bc:=Ra (al.m av) au
  refine R q 1 c j fun a c=>E (xB (T (G (R q 2 c j fun a c=>E (T ?_)))));cases g;have c:=c.setI (t:=14) j (Wc an (Ln aq))
  exact ⟨l.length,Nat.lt_succ_self _,i228 + 1,l,_,s,az,a1,(x ++ [.string aa.Low,i_ ai.1]),j,an,ag,o,(ah.t av),c.kp j,(d.dropN 2 j),bc⟩

theorem cl_19:Callable Tryz.prog 19:=⟨_,Tryz.func19,by kernel_rfl,by kernel_rfl⟩

def schema_New.C (s:TSchema→Option ((Option Tschema_Catalog) × Int × Int)):Prop:=∀ {f r},s f=some r→∀ {c b e},Inv c b [] b [] c→(Rep b f.d e)→Calls Tryz.prog 19 #[.agg ⟨e⟩] c (Ret c b [] fun G' L' v=>L'=[]∧∃ d,v = .tuple ⟨[.pointer d,i_ r.2.1,i_ r.2.2]⟩∧Pt G' d 111 Tschema_Catalog.d r.1)
end Go.Proofs.YtknhbphhdfknaaaGreatDoor
