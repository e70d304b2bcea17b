/- The contracts: what the machine does at a call is what the plain function says. Written by mk.py. -/
import Derived.Test.YtknhbphhdfknaaaGreatDoorCgT3
import Derived.Test.YtknhbphhdfknaaaGreatDoorCgT5
set_option linter.unusedVariables false
set_option linter.unusedSimpArgs false
set_option maxRecDepth 100000
namespace Go.Proofs.YtknhbphhdfknaaaGreatDoor
open Go.RowKit
theorem schema_New.ok (k:Nat):schema_New.C (schema_New k):=by
  intro o r f az am dm d cn
  unfold schema_New at f
  obtain ⟨c4,dj,c7,dk,c8,dl,c5,dg,c6,dh,rfl,b6,cg,bg,b4,b5⟩:=TSchema.inv.1 cn
  refine Ci 106 Tryz.func19 j j j fun a c=>?_
  
  refine S (G (s_box d c j j j j fun a w dd c d=>R q 3 c j fun a c=>E (T (S (G (R q 1 c j fun a c=>L d c j (B q 0 j j j j) j fun a c=>R q 1 c j fun a c=>L d c j (B q 0 j j j j) j fun a c=>?_))))))
  obtain ⟨a0,c0,f⟩:=bd f;refine J cl_38 d c j j ((lattice_New.ok k) c0 d.pass0 b6 cg) j ?_;rintro a w _ ab _ ⟨rfl,al,rfl,ar⟩ ba d c
  refine R q 5 c j fun a c=>E (T (S (S (G (R q 2 c j fun a c=>E (T (Cc (b:=!decide (a0.2=(0:Int))) c j (fun a9=>?_) (fun a9=>?_))))))))
  · replace f:=ct a9 f;refine S (G (R q 4 c j fun a c=>E (T (V (Xr ?_)))));cases f;refine N (v:=_) c j ⟨_,_,_,j,d.nil,j,none,j,Pn⟩
  replace f:=cf a9 f;refine K (T (S (G (R q 1 c j fun a c=>s_makeMap d c j j fun a w y c d=>?_))))
  have ck:RM ab false D.str di ([]:List (ByteArray × Int)) (#[]:Array MapEntry).toList:=RM.nil
  refine R q 1 c j fun a c=>L d c j (B q 1 j j j j) j fun a c=>L d c j (Bd q j z_111 j j) j fun a c=>s_box d c j j j j fun a w ac c d=>R q 1 c j fun a c=>E (T (S (S ?_)))
  obtain ⟨bk,f,cr⟩:=bd f;refine X c d (fun e L a' w'=>∃ u,ab.le u∧Env a' 106 (sl e [1,7] [(49,.bool bk)])∧Inv az am [] u L w') ?_ ?_
  ·
    refine G (R q 1 c j fun a c=>L d c j (B q 2 j j j j) j fun a c=>R q 2 c j fun a c=>L d c j (B q 2 j j j j) j fun a c=>R q 2 c j fun a c=>L d c j (B q 2 j j j j) j fun a c=>R q 1 c j fun a c=>L d c j (f_max3 j j j) j fun a c=>R q 2 c j fun a c=>?_)
    rcases Bo (decide ((20:Int) < (max (max (o.Tables.length:Int) (o.Channels.length:Int)) (o.Principals.length:Int)))) with ae | ae
    · replace f:=ct ae f;have c:=c.tr (t:=40) j ae;refine R q 9 c j fun a c=>E (T ?_);cases f;exact ⟨ab,rf,c.kp j,d⟩
    replace f:=cf ae f;have c:=c.tr (t:=40) j ae;refine R q 1 c j fun a c=>L d c j (B q 2 j j j j) j fun a c=>R q 3 c j fun a c=>?_
    rcases Bo (decide (o.Limit < (0:Int))) with af | af
    · replace f:=ct af f;have c:=c.tr (t:=45) j af;refine R q 4 c j fun a c=>E (T ?_);cases f;exact ⟨ab,rf,c.kp j,d⟩
    replace f:=cf af f;have c:=c.tr (t:=45) j af;refine R q 1 c j fun a c=>L d c j (B q 2 j j j j) j fun a c=>R q 2 c j fun a c=>E (T ?_)
    cases f;exact ⟨ab,rf,c.kp j,d⟩
  rintro a w ⟨u,h,c,d⟩;have f:=cr;refine T (Cc (b:=bk) c j (fun a8=>?_) (fun a8=>?_))
  · replace f:=ct a8 f;refine S (G (R q 3 c j fun a c=>E (T (V (Xr ?_)))));cases f;refine N (v:=_) c j ⟨_,_,_,j,d.nil,j,none,j,Pn⟩
  replace f:=cf a8 f;refine K (T (S (S (G (R q 3 c j fun a c=>L d c j (B q 0 j j j j) j fun a c=>R q 1 c j fun a c=>E (T ?_))))))
  obtain ⟨z,f,cu⟩:=bd f
  refine X c d (fun e L a' w'=>∃ m,u.le m∧Env a' 106 (sl e [1,7] [])∧Inv az am [] m [.blk ac [.pointer al,.slice none 0 0,.map (some y),.slice none 0 0,.slice none 0 0,i_ z] 111,nt L 1,nt L 2] w') ?_ ?_
  · refine Cc (b:=decide (o.Limit=(0:Int))) c j (fun a7=>?_) (fun a7=>?_);rotate_left
    · replace f:=cf a7 f;refine K (T ?_);cases f;exact ⟨u,rf,c.kp j,d⟩
    replace f:=ct a7 f;refine G (R q 3 c j fun a c=>W q 0 d c j j j j j j j j j j fun a w c d=>E (T ?_));cases f;exact ⟨u,rf,c.kp j,d⟩
  rintro a w ⟨m,i,c,d⟩;have f:=cu
  refine T (S (S (G (R q 1 c j fun a c=>L d c j (B q 2 j j j j) j fun a c=>R q 2 c j fun a c=>E (T ?_)))));have d:=d.nilrow 43 6
  have cm:RL m 6 (([]:List TRelation).map TRelation.d) []:=Rn;obtain ⟨bl,n,bh⟩:=bd f
  refine X c d (fun e L a' w'=>∃ g aa ak ao a2 a3 bf,bl = .go g∧m.le aa∧Env a' 106 (sl e [1,7] [])∧Inv az am [] aa [.row (.slice ak g.1.length ao) 43 6 g.1.length a2,.blk ac [.pointer al,.slice ak g.1.length ao,.map (some y),.slice none 0 0,.slice none 0 0,i_ z] 111,.map y a3 bf,nt L 3] w'∧RL aa 6 (g.1.map TRelation.d) a2∧RM aa false D.str di g.2 a3.toList) ?_ ?_
  rotate_left
  · rintro a w ⟨g,aa,ak,ao,a2,a3,bf,rfl,ag,c,d,co,cj⟩;have f:=Lg bh
    refine T (S (G (R q 1 c j fun a c=>E (T (S (S (G (R q 3 c j fun a c=>L d c j (B q 3 j j j j) j fun a c=>?_))))))))
    have d:=d.pick [1,0,2,3] (by decide) j;obtain ⟨bc,cz,f⟩:=bd f
    refine M 1 cl_40 d c j j (fun ad=>(schema_Catalog_named.ok k) cz ad (ar.m ((h.t i).t ag)) (b4.m (((ba.t h).t i).t ag))) j ?_
    rintro a w _ c9 _ ⟨bm,bu,rfl,rfl,b7⟩ ah d c
    refine R q 6 c j fun a c=>W q 0 d c j j j j j j j j j j fun a w c d=>R q 2 c j fun a c=>E (T (S (G (R q 2 c j fun a c=>E (T (Cc (b:=!decide (bc.2.2.1=(0:Int))) c j (fun a5=>?_) (fun a5=>?_)))))))
    · replace f:=ct a5 f;refine S (G (R q 5 c j fun a c=>E (T (V (Xr ?_)))));cases f;refine N (v:=_) c j ⟨_,_,_,j,d.nil,j,none,j,Pn⟩
    replace f:=cf a5 f;refine K (T (S (S (G (R q 3 c j fun a c=>L d c j (B q 3 j j j j) j fun a c=>?_)))));obtain ⟨be,c1,f⟩:=bd f
    refine M 1 cl_40 d c j j (fun ad=>(schema_Catalog_named.ok k) c1 ad (ar.m (((h.t i).t ag).t ah)) (b5.m ((((ba.t h).t i).t ag).t ah))) j ?_
    rintro a w _ da _ ⟨bn,bv,rfl,rfl,b8⟩ aw d c
    refine R q 6 c j fun a c=>W q 0 d c j j j j j j j j j j fun a w c d=>R q 2 c j fun a c=>E (T (S (G (R q 2 c j fun a c=>E (T (Cc (b:=!decide (be.2.2.1=(0:Int))) c j (fun a4=>?_) (fun a4=>?_)))))))
    · replace f:=ct a4 f;refine S (G (R q 5 c j fun a c=>E (T (V (Xr ?_)))));cases f;refine N (v:=_) c j ⟨_,_,_,j,d.nil,j,none,j,Pn⟩
    replace f:=cf a4 f;refine K (T (S (G (R q 4 c j fun a c=>E (T ?_)))))
    obtain ⟨db,ax,d,b9⟩:=(d.front 1).giveR (xs:=g.1.map TRelation.d) (by simp) (co.m (ah.t aw))
    obtain ⟨dc,ay,d,ca⟩:=(d.front 1).giveM (cj.m ((ah.t aw).t ax));obtain ⟨bs,ai,d,ch⟩:=(d.front 0).giveB
    have cb:Pt bs (p_ ac) 111 Tschema_Catalog.d (some (Tschema_Catalog.mk a0.1 g.1 g.2 bc.1 be.1 z)):=Pm ((Tschema_Catalog.inv (x:=(Tschema_Catalog.mk a0.1 g.1 g.2 bc.1 be.1 z))).2 ⟨al,ak,ao,(some y),bm,bu,bn,bv,j,(ar.m (((((((h.t i).t ag).t ah).t aw).t ax).t ay).t ai)),(b9.m (ay.t ai)),(ca.m ai),(b7.m (((aw.t ax).t ay).t ai)),(b8.m ((ax.t ay).t ai))⟩) ch
    refine V ?_;cases f;refine N (v:=_) c j ⟨_,_,_,j,d.nil,j,(p_ ac),j,cb⟩
  
  refine O (Q c d (fun e L n' a' w'=>∃ i341 l p s aj an ap aq a1,n'=List.length l∧i341≤o.Tables.length∧o.Tables.drop i341=l∧forL (schema_New.b0 k a0 z) i341 l p=some bl∧m.le s∧Env a' 106 (sl e [1,7,59,60] [(61,i_ (i341:Int))])∧Inv az am [] s [.row (.slice aj p.1.length an) 43 6 p.1.length ap,.blk ac [.pointer al,.slice aj p.1.length an,.map (some y),.slice none 0 0,.slice none 0 0,i_ z] 111,.map y aq a1,nt L 3] w'∧RL s 6 (p.1.map TRelation.d) ap∧RM s false D.str di p.2 aq.toList) _ ⟨0,_,_,m,none,0,[],#[],0,j,Nat.zero_le _,j,n,rf,c.kp j,d,cm,(ck.m (h.t i))⟩ ?_)
  rintro dn a w ⟨i341,l,p,s,aj,an,ap,aq,a1,rfl,cx,au,n,av,c,d,bj,bi⟩;rcases l with _ | ⟨dr,l⟩
  · obtain rfl:=Fn n;have bb:=Do au cx;refine S (G (R q 1 c j fun a c=>E (T (S ?_))));have c:=c.tr (t:=62) j (decide_eq_false (by omega))
    refine Fa c j (Ex (Xe (Xe (Xh (T (⟨_,s,aj,an,ap,aq,a1,j,av,c.kp j,d,bj,bi⟩))))))
  obtain ⟨dq,f,n⟩:=Fs n;obtain ⟨cy,au,bb⟩:=Dc au;unfold schema_New.b0 at f;refine S (G (R q 1 c j fun a c=>E (T (S ?_))))
  have c:=c.tr (t:=62) j (decide_eq_true (by omega));refine Tr c j (K (T (S (O (S (G (R q 1 c j fun a c=>?_)))))))
  obtain ⟨de,dp,cs,cv,cp,ci⟩:=Sa (bg.m (((ba.t h).t i).t av)) (Int.natCast_nonneg _) (natIdx cy)
  obtain ⟨bo,bw,bp,bx,bq,bz,rfl,cc,cd,ce⟩:=TTable.inv.1 cp
  refine L d c j (I q cv j j j) j fun a c=>L d c j (Fg q ci 0 j j j j) j fun a c=>A d c j z_114 j j fun a w df c d=>R q 1 c j fun a c=>W q 0 d c j j j j j j j j j j fun a w c d=>E (T (S (G (R q 1 c j fun a c=>L d c j (B q 0 j j j j) j fun a c=>?_))))
  have d:=d.pick [2,1,3,0,4] (by decide) j;obtain ⟨c3,c2,f⟩:=bd f
  refine M 3 cl_39 d c j j (fun ad=>(schema_Catalog_table.ok k) c2 ad (ar.m ((h.t i).t av)) bj bi (Sn _ _ _ _ (Nat.zero_le _)) (Sn _ _ _ _ (Nat.zero_le _)) (TTable.inv.2 ⟨bo,bw,bp,bx,bq,bz,j,cc,cd,ce⟩)) j ?_
  rintro a w _ bt _ ⟨br,b0,b2,b3,b1,rfl,rfl,cq,cl⟩ cw d c
  refine R q 1 c j fun a c=>E (T (S (G (R q 2 c j fun a c=>E (T (Cc (b:=!decide (c3.1=(0:Int))) c j (fun a6=>?_) (fun a6=>?_)))))))
  · replace f:=ct a6 f;refine S (G (R q 6 c j fun a c=>E (T (V (Xb (Xr (Xr (Xb (Xr (Xr ?_))))))))));cases f;obtain rfl:=Nr n;have f:=Le bh;cases f
    refine N (v:=_) c j ⟨_,_,_,j,d.nil,j,none,j,Pn⟩
  replace f:=cf a6 f;refine K (xB (T (G (R q 2 c j fun a c=>E (T ?_)))));cases f;have c:=c.setI (t:=61) j (Wc bb (Ln bg))
  exact ⟨l.length,Nat.lt_succ_self _,i341 + 1,l,_,bt,br,b0,b2,b3,b1,j,bb,au,n,(av.t cw),c.kp j,(d.pick [1,0,2,4] (by decide) j),cq,cl⟩

theorem cl_31:Callable Tryz.prog 31:=⟨_,Tryz.func31,by kernel_rfl,by kernel_rfl⟩

def ref03_Lattice_Is.C (s:(Option Tref03_Lattice)→Int→Option Bool):Prop:=∀ {e f r},s e f=some r→∀ {c b d},Inv c b [] b [] c→(Pt b d 99 Tref03_Lattice.d e)→Calls Tryz.prog 31 #[.pointer d,i_ f] c (Ret c b [] fun G' L' v=>L'=[]∧v = .bool r)

theorem ref03_Lattice_Is.ok (k:Nat):ref03_Lattice_Is.C (ref03_Lattice_Is k):=by
  intro ag s r c u g x d l
  unfold ref03_Lattice_Is at c
  refine Ci 16 Tryz.func31 j j j fun a b=>?_
  refine S (G (R q 1 b j fun a b=>E (T (S ?_))));obtain ⟨p,c,n⟩:=bd c
  refine X b d (fun e L a' w'=>∃ h,g.le h∧Env a' 16 [(4,.bool p)]∧Inv u g [] h L w') ?_ ?_;rotate_left
  · rintro a w ⟨h,af,b,d⟩;have c:=n;refine T (V ?_);cases c;refine N (v:=_) b j ⟨_,_,_,j,d.nil,j,j⟩
  refine G (R q 3 b j fun a b=>?_);rcases Bo (decide ((0:Int)≤s)) with f | f;rotate_left
  · replace c:=cf f c;have b:=b.tr (t:=7) j f;refine R q 9 b j fun a b=>E (T ?_);cases c;exact ⟨g,rf,b.kp j,d⟩
  replace c:=ct f c;have b:=b.tr (t:=7) j f;refine R q 2 b j fun a b=>?_;rcases (l).cases with ⟨i,rfl⟩ | ⟨ah,aa,cs,i,rfl,o,m⟩
  · cases op_n i c
  replace c:=op_s i c;obtain ⟨y,ab,z,ac,rfl,ad,ae⟩:=Tref03_Lattice.inv.1 o
  refine R q 2 b j fun a b=>L d b j (Fg q m 0 j j j j) j fun a b=>R q 4 b j fun a b=>E (T ?_);cases c;exact ⟨g,rf,b.kp j,d⟩

theorem cl_13:Callable Tryz.prog 13:=⟨_,Tryz.func13,by kernel_rfl,by kernel_rfl⟩

def ref03_Lattice_Leq.C (s:(Option Tref03_Lattice)→Int→Int→Option Bool):Prop:=∀ {e f g r},s e f g=some r→∀ {c b d},Inv c b [] b [] c→(Pt b d 99 Tref03_Lattice.d e)→Calls Tryz.prog 13 #[.pointer d,i_ f,i_ g] c (Ret c b [] fun G' L' v=>L'=[]∧v = .bool r)

theorem ref03_Lattice_Leq.ok (k:Nat):ref03_Lattice_Leq.C (ref03_Lattice_Leq k):=by
  intro a5 a6 a7 r c am o ap d l
  unfold ref03_Lattice_Leq at c
  refine Ci 27 Tryz.func13 j j j fun a b=>?_
  refine S (G (R q 1 b j fun a b=>E (T (S ?_))));obtain ⟨al,c,ad⟩:=bd c
  refine X b d (fun e L a' w'=>∃ i,o.le i∧Env a' 27 [(6,.bool al)]∧Inv am o [] i L w') ?_ ?_;rotate_left
  · rintro a w ⟨i,a2,b,d⟩;have c:=ad;refine T (V ?_);cases c;refine N (v:=_) b j ⟨_,_,_,j,d.nil,j,j⟩
  refine G (R q 2 b j fun a b=>?_);obtain ⟨an,aj,c⟩:=bd c;refine J cl_31 d b j j ((ref03_Lattice_Is.ok k) aj d.pass0 l) j ?_;rintro a w _ x _ ⟨rfl,rfl⟩ h d b
  refine R q 1 b j fun a b=>?_;rcases Bo an with f | f;rotate_left
  · replace c:=cf f c;have b:=b.tr (t:=10) j f;refine R q 17 b j fun a b=>E (T ?_);cases c;exact ⟨x,h,b.kp j,d⟩
  replace c:=ct f c;have b:=b.tr (t:=10) j f;refine R q 2 b j fun a b=>?_;obtain ⟨ao,ak,c⟩:=bd c
  refine J cl_31 d b j j ((ref03_Lattice_Is.ok k) ak d.pass0 (l.m h)) j ?_;rintro a w _ p _ ⟨rfl,rfl⟩ m d b;refine R q 2 b j fun a b=>?_;rcases Bo ao with g | g
  rotate_left
  · replace c:=cf g c;have b:=b.tr (t:=15) j g;refine R q 12 b j fun a b=>E (T ?_);cases c;exact ⟨p,(h.t m),b.kp j,d⟩
  replace c:=ct g c;have b:=b.tr (t:=15) j g;refine R q 1 b j fun a b=>?_;rcases ((l.m (h.t m))).cases with ⟨n,rfl⟩ | ⟨a8,av,cs,n,rfl,ae,aa⟩
  · cases op_n n c
  replace c:=op_s n c;obtain ⟨aq,ay,ar,az,rfl,a1,y⟩:=Tref03_Lattice.inv.1 ae
  refine R q 2 b j fun a b=>L d b j (Fg q aa 1 j j j j) j fun a b=>R q 1 b j fun a b=>?_;obtain ⟨a9,s,c⟩:=bd c
  obtain ⟨aw,a3,cs,ah,af,ab⟩:=Sa y (Go s).1 (Go s).2;obtain ⟨au,a0,rfl,z⟩:=rep_slm.1 af
  refine L d b j (I q ah j j j) j fun a b=>L d b j (Fg q ab 0 j j j j) j fun a b=>R q 1 b j fun a b=>?_;obtain ⟨ba,u,c⟩:=bd c
  obtain ⟨ax,a4,cs,ai,ag,ac⟩:=Sa z (Go u).1 (Go u).2;obtain rfl:=rep_bool.1 ag
  refine L d b j (I q ai j j j) j fun a b=>L d b j (Fg q ac 0 j j j j) j fun a b=>R q 2 b j fun a b=>E (T ?_);cases c
  exact ⟨p,(h.t m),b.kp j,d⟩

theorem cl_28:Callable Tryz.prog 28:=⟨_,Tryz.func28,by kernel_rfl,by kernel_rfl⟩

def ref03_Lattice_Join.C (s:(Option Tref03_Lattice)→Int→Int→Option Int):Prop:=∀ {e f g r},s e f g=some r→∀ {c b d},Inv c b [] b [] c→(Pt b d 99 Tref03_Lattice.d e)→Calls Tryz.prog 28 #[.pointer d,i_ f,i_ g] c (Ret c b [] fun G' L' v=>L'=[]∧v=i_ r)

theorem ref03_Lattice_Join.ok (k:Nat):ref03_Lattice_Join.C (ref03_Lattice_Join k):=by
  intro a7 a8 a9 r d m g b5 f y
  unfold ref03_Lattice_Join at d
  refine Ci 59 Tryz.func28 j j j fun a c=>?_
  refine S (G (R q 1 c j fun a c=>E (T (S (S (G (R q 1 c j fun a c=>E (T ?_))))))));rcases (y).cases with ⟨ax,rfl⟩ | ⟨af,b8,cs,ax,rfl,bl,aj⟩
  · cases op_n ax d
  replace d:=op_s ax d;obtain ⟨b7,ca,b6,b9,rfl,az,cb⟩:=Tref03_Lattice.inv.1 bl;obtain ⟨a6,o,a0⟩:=bd d
  refine X c f (fun e L a' w'=>∃ bb an,a6 = .go bb∧g.le an∧Env a' 59 []∧Inv m g [] an L w') ?_ ?_;rotate_left
  · rintro a w ⟨bb,an,rfl,cc,c,f⟩;have d:=Lg a0;refine T (S (G (R q 1 c j fun a c=>E (T (V ?_)))));cases d
    refine N (v:=_) c j ⟨_,_,_,j,f.nil,j,j⟩
  
  refine O (Q c f (fun e L n' a' w'=>∃ i633 l ba x,n'=List.length l∧i633≤af.Names.length∧af.Names.drop i633=l∧forL (ref03_Lattice_Join.b0 k a7 a8 a9 af) i633 l ba=some a6∧g.le x∧Env a' 59 (sl e [0,1,2] [(7,i_ (i633:Int))])∧Inv m g [] x L w') _ ⟨0,_,_,g,j,Nat.zero_le _,j,o,rf,c.kp j,f⟩ ?_)
  rintro ch a w ⟨i633,l,ba,x,rfl,bt,al,o,h,c,f⟩;rcases l with _ | ⟨ck,l⟩
  · obtain rfl:=Fn o;have aw:=Do al bt
    refine S (S (G (R q 4 c j fun a c=>L f c j (Fg q (aj.m h) 0 j j j j) j fun a c=>R q 2 c j fun a c=>E (T ?_))))
    have c:=c.tr (t:=16) j (decide_eq_false (by omega));refine Fa c j (Ex (Xe (Xe (Xh (T (⟨_,x,j,h,c.kp j,f⟩))))))
  obtain ⟨b1,d,o⟩:=Fs o;obtain ⟨ce,al,aw⟩:=Dc al;unfold ref03_Lattice_Join.b0 at d
  refine S (S (G (R q 4 c j fun a c=>L f c j (Fg q (aj.m h) 0 j j j j) j fun a c=>R q 2 c j fun a c=>E (T ?_))))
  have c:=c.tr (t:=16) j (decide_eq_true (by omega))
  refine Tr c j (K (T (S (X c f (fun e L a' w'=>∃ a3,ref03_Lattice_Join.j1 k a3=some b1∧∃ ai,x.le ai∧Env a' 59 (sl e [0,1,2,7] [])∧Inv m g [] ai L w') ?_ ?_))))
  rotate_left
  · rintro a w ⟨a3,d,ai,br,c,f⟩;unfold ref03_Lattice_Join.j1 at d;refine T (G (R q 3 c j fun a c=>E (T ?_)));cases d;have c:=c.setI (t:=7) j (Wc aw (Ln az))
    exact ⟨l.length,Nat.lt_succ_self _,i633 + 1,l,_,ai,j,aw,al,o,(h.t br),c.kp j,f⟩
  refine O (S (S ?_));obtain ⟨a4,d,bm⟩:=bd d;refine X c f (fun e L a' w'=>∃ n,x.le n∧Env a' 59 (sl e [0,1,2,7] [(30,.bool a4)])∧Inv m g [] n L w') ?_ ?_
  · refine G (R q 3 c j fun a c=>?_);obtain ⟨b4,bx,d⟩:=bd d;refine J cl_13 f c j j ((ref03_Lattice_Leq.ok k) bx f.pass0 (y.m h)) j ?_
    rintro a w _ bg _ ⟨rfl,rfl⟩ au f c;refine R q 2 c j fun a c=>?_;rcases Bo (!b4) with ad | ad
    · replace d:=ct ad d;have c:=c.tr (t:=24) j ad;refine R q 6 c j fun a c=>E (T ?_);cases d;exact ⟨bg,au,c.kp j,f⟩
    replace d:=cf ad d;have c:=c.tr (t:=24) j ad;refine R q 3 c j fun a c=>?_;obtain ⟨cm,bz,d⟩:=bd d
    refine J cl_13 f c j j ((ref03_Lattice_Leq.ok k) bz f.pass0 (y.m (h.t au))) j ?_;rintro a w _ bh _ ⟨rfl,rfl⟩ bq f c;refine R q 2 c j fun a c=>E (T ?_)
    cases d;exact ⟨bh,(au.t bq),c.kp j,f⟩
  rintro a w ⟨n,s,c,f⟩;have d:=bm;refine T (Cc (b:=a4) c j (fun aq=>?_) (fun aq=>?_))
  · replace d:=ct aq d;refine Ex (Xe (Xh (T (⟨_,d,n,s,c.kp j,f⟩))))
  replace d:=cf aq d;refine K (T (S (G (R q 1 c j fun a c=>E (T (S (S (G (R q 1 c j fun a c=>E (T ?_))))))))));obtain ⟨a5,z,bi⟩:=bd d
  refine X c f (fun e L a' w'=>∃ am ag,a5 = .go am∧n.le ag∧Env a' 59 (sl e [0,1,2,7] [(8,.bool am)])∧Inv m g [] ag L w') ?_ ?_;rotate_left
  · rintro a w ⟨am,ag,rfl,bn,c,f⟩;have d:=Lg bi;refine T (S (G (R q 1 c j fun a c=>E (T (Cc (b:=am) c j (fun ao=>?_) (fun ao=>?_))))));rotate_left
    · replace d:=cf ao d;refine K (xB (T (⟨_,d,ag,(s.t bn),c.kp j,f⟩)))
    replace d:=ct ao d;refine S (G (R q 2 c j fun a c=>E (T (V (Xb (Xr (Xr (Xr (Xb (Xr (Xr ?_)))))))))));cases d;obtain rfl:=Nr o;have d:=Le a0;cases d
    refine N (v:=_) c j ⟨_,_,_,j,f.nil,j,j⟩
  
  refine O (Q c f (fun e L n' a' w'=>∃ i1144 i ay u,n'=List.length i∧i1144≤af.Names.length∧af.Names.drop i1144=i∧forL (ref03_Lattice_Join.b2 k a7 a8 a9 i633) i1144 i ay=some a5∧n.le u∧Env a' 59 (sl e [0,1,2,7] [(9,i_ (i1144:Int)),(8,.bool ay)])∧Inv m g [] u L w') _ ⟨0,_,_,n,j,Nat.zero_le _,j,z,rf,c.kp j,f⟩ ?_)
  rintro cg a w ⟨i1144,i,ay,u,rfl,bs,ak,z,p,c,f⟩;rcases i with _ | ⟨cj,i⟩
  · obtain rfl:=Fn z;have av:=Do ak bs
    refine S (S (G (R q 4 c j fun a c=>L f c j (Fg q (aj.m ((h.t s).t p)) 0 j j j j) j fun a c=>R q 2 c j fun a c=>E (T ?_))))
    have c:=c.tr (t:=37) j (decide_eq_false (by omega));refine Fa c j (Ex (Xe (Xe (Xh (T (⟨_,u,j,p,c.kp j,f⟩))))))
  obtain ⟨ci,d,z⟩:=Fs z;obtain ⟨cd,ak,av⟩:=Dc ak;unfold ref03_Lattice_Join.b2 at d
  refine S (S (G (R q 4 c j fun a c=>L f c j (Fg q (aj.m ((h.t s).t p)) 0 j j j j) j fun a c=>R q 2 c j fun a c=>E (T ?_))))
  have c:=c.tr (t:=37) j (decide_eq_true (by omega));refine Tr c j (K (T (S ?_)));obtain ⟨b0,d,bj⟩:=bd d
  refine X c f (fun e L a' w'=>∃ ah,u.le ah∧Env a' 59 (sl e [0,1,2,7,9] [(8,.bool b0)])∧Inv m g [] ah L w') ?_ ?_;rotate_left
  · rintro a w ⟨ah,bo,c,f⟩;have d:=bj;refine T (G (R q 3 c j fun a c=>E (T ?_)));cases d;have c:=c.setI (t:=9) j (Wc av (Ln az))
    exact ⟨i.length,Nat.lt_succ_self _,i1144 + 1,i,_,ah,j,av,ak,z,(p.t bo),c.kp j,f⟩
  refine O (S ?_);obtain ⟨a2,d,bk⟩:=bd d;refine X c f (fun e L a' w'=>∃ aa,u.le aa∧Env a' 59 (sl e [0,1,2,7,8,9] [(56,.bool a2)])∧Inv m g [] aa L w') ?_ ?_
  rotate_left
  · rintro a w ⟨aa,a1,c,f⟩;have d:=bk;refine T (Cc (b:=a2) c j (fun ap=>?_) (fun ap=>?_));rotate_left
    · replace d:=cf ap d;refine K (xB (T ?_));cases d;exact ⟨aa,a1,c.kp j,f⟩
    replace d:=ct ap d;refine G (R q 1 c j fun a c=>E (xB (T ?_)));cases d;exact ⟨aa,a1,c.kp j,f⟩
  refine G (R q 3 c j fun a c=>?_);obtain ⟨b2,bu,d⟩:=bd d;refine J cl_13 f c j j ((ref03_Lattice_Leq.ok k) bu f.pass0 (y.m ((h.t s).t p))) j ?_
  rintro a w _ bc _ ⟨rfl,rfl⟩ ae f c;refine R q 1 c j fun a c=>?_;rcases Bo b2 with ab | ab;rotate_left
  · replace d:=cf ab d;have c:=c.tr (t:=44) j ab;refine R q 12 c j fun a c=>E (T ?_);cases d;exact ⟨bc,ae,c.kp j,f⟩
  replace d:=ct ab d;have c:=c.tr (t:=44) j ab;refine R q 3 c j fun a c=>?_;obtain ⟨b3,bv,d⟩:=bd d
  refine J cl_13 f c j j ((ref03_Lattice_Leq.ok k) bv f.pass0 (y.m (((h.t s).t p).t ae))) j ?_;rintro a w _ be _ ⟨rfl,rfl⟩ ar f c
  refine R q 2 c j fun a c=>?_;rcases Bo b3 with ac | ac;rotate_left
  · replace d:=cf ac d;have c:=c.tr (t:=50) j ac;refine R q 6 c j fun a c=>E (T ?_);cases d;exact ⟨be,(ae.t ar),c.kp j,f⟩
  replace d:=ct ac d;have c:=c.tr (t:=50) j ac;refine R q 3 c j fun a c=>?_;obtain ⟨cl,bw,d⟩:=bd d
  refine J cl_13 f c j j ((ref03_Lattice_Leq.ok k) bw f.pass0 (y.m ((((h.t s).t p).t ae).t ar))) j ?_;rintro a w _ bf _ ⟨rfl,rfl⟩ bp f c
  refine R q 2 c j fun a c=>E (T ?_);cases d;exact ⟨bf,((ae.t ar).t bp),c.kp j,f⟩

theorem cl_81:Callable Tryz.prog 81:=⟨_,Tryz.func81,by kernel_rfl,by kernel_rfl⟩

def ref03_Find.C (s:(List ByteArray)→ByteArray→Option Int):Prop:=∀ {d g r},s d g=some r→∀ {c b e f},Inv c b [] b [] c→(Sl b e f 1 (d.map D.str))→Calls Tryz.prog 81 #[.slice e d.length f,.string g] c (Ret c b [] fun G' L' v=>L'=[]∧v=i_ r)

theorem ref03_Find.ok (k:Nat):ref03_Find.C (ref03_Find k):=by
  intro z aa r d ad i ak am f u
  unfold ref03_Find at d
  refine Ci 19 Tryz.func81 j j j fun a c=>?_
  refine S (G (R q 1 c j fun a c=>E (T (S (S (G (R q 1 c j fun a c=>E (T ?_))))))));obtain ⟨y,h,x⟩:=bd d
  refine X c f (fun e L a' w'=>∃ ac n,y = .go ac∧i.le n∧Env a' 19 []∧Inv ad i [] n L w') ?_ ?_;rotate_left
  · rintro a w ⟨ac,n,rfl,an,c,f⟩;have d:=Lg x;refine T (S (G (R q 1 c j fun a c=>E (T (V ?_)))));cases d;refine N (v:=_) c j ⟨_,_,_,j,f.nil,j,j⟩
  
  refine O (Q c f (fun e L n' a' w'=>∃ i26 g ab l,n'=List.length g∧i26≤z.length∧z.drop i26=g∧forL (ref03_Find.b0 k aa) i26 g ab=some y∧i.le l∧Env a' 19 (sl e [0,1] [(5,i_ (i26:Int))])∧Inv ad i [] l L w') _ ⟨0,_,_,i,j,Nat.zero_le _,j,h,rf,c.kp j,f⟩ ?_)
  rintro ao a w ⟨i26,g,ab,l,rfl,ah,m,h,p,c,f⟩;rcases g with _ | ⟨aj,g⟩
  · obtain rfl:=Fn h;have s:=Do m ah;refine S (S (G (R q 4 c j fun a c=>E (T ?_))));have c:=c.tr (t:=9) j (decide_eq_false (by omega))
    refine Fa c j (Ex (Xe (Xe (Xh (T (⟨_,l,j,p,c.kp j,f⟩))))))
  obtain ⟨aq,d,h⟩:=Fs h;obtain ⟨ai,m,s⟩:=Dc m;unfold ref03_Find.b0 at d;refine S (S (G (R q 4 c j fun a c=>E (T ?_))))
  have c:=c.tr (t:=9) j (decide_eq_true (by omega));refine Tr c j (K (T (S (O (S (G (R q 2 c j fun a c=>?_)))))))
  obtain ⟨al,ap,cs,ag,af,ae⟩:=Sa (u.m p) (Int.natCast_nonneg _) (natIdx ai);obtain rfl:=rep_str.1 af
  refine L f c j (I q ag j j j) j fun a c=>L f c j (Fg q ae 0 j j j j) j fun a c=>R q 2 c j fun a c=>E (T (Cc (b:=decide (aj=aa)) c j (fun o=>?_) (fun o=>?_)))
  rotate_left
  · replace d:=cf o d;refine K (xB (T (G (R q 3 c j fun a c=>E (T ?_)))));cases d;have c:=c.setI (t:=5) j (Wc s (Ln u))
    exact ⟨g.length,Nat.lt_succ_self _,i26 + 1,g,_,l,j,s,m,h,p,c.kp j,f⟩
  replace d:=ct o d;refine S (G (R q 2 c j fun a c=>E (T (V (Xb (Xr (Xr (Xb (Xr (Xr ?_))))))))));cases d;obtain rfl:=Nr h;have d:=Le x;cases d
  refine N (v:=_) c j ⟨_,_,_,j,f.nil,j,j⟩

theorem cl_82:Callable Tryz.prog 82:=⟨_,Tryz.func82,by kernel_rfl,by kernel_rfl⟩

def ref03_Lattice_Meet.C (s:(Option Tref03_Lattice)→Int→Int→Option Int):Prop:=∀ {e f g r},s e f g=some r→∀ {c b d},Inv c b [] b [] c→(Pt b d 99 Tref03_Lattice.d e)→Calls Tryz.prog 82 #[.pointer d,i_ f,i_ g] c (Ret c b [] fun G' L' v=>L'=[]∧v=i_ r)

theorem ref03_Lattice_Meet.ok (k:Nat):ref03_Lattice_Meet.C (ref03_Lattice_Meet k):=by
  intro a7 a8 a9 r d m g b5 f y
  unfold ref03_Lattice_Meet at d
  refine Ci 59 Tryz.func82 j j j fun a c=>?_
  refine S (G (R q 1 c j fun a c=>E (T (S (S (G (R q 1 c j fun a c=>E (T ?_))))))));rcases (y).cases with ⟨ax,rfl⟩ | ⟨af,b8,cs,ax,rfl,bl,aj⟩
  · cases op_n ax d
  replace d:=op_s ax d;obtain ⟨b7,ca,b6,b9,rfl,az,cb⟩:=Tref03_Lattice.inv.1 bl;obtain ⟨a6,o,a0⟩:=bd d
  refine X c f (fun e L a' w'=>∃ bb an,a6 = .go bb∧g.le an∧Env a' 59 []∧Inv m g [] an L w') ?_ ?_;rotate_left
  · rintro a w ⟨bb,an,rfl,cc,c,f⟩;have d:=Lg a0;refine T (S (G (R q 1 c j fun a c=>E (T (V ?_)))));cases d
    refine N (v:=_) c j ⟨_,_,_,j,f.nil,j,j⟩
  
  refine O (Q c f (fun e L n' a' w'=>∃ i633 l ba x,n'=List.length l∧i633≤af.Names.length∧af.Names.drop i633=l∧forL (ref03_Lattice_Meet.b0 k a7 a8 a9 af) i633 l ba=some a6∧g.le x∧Env a' 59 (sl e [0,1,2] [(7,i_ (i633:Int))])∧Inv m g [] x L w') _ ⟨0,_,_,g,j,Nat.zero_le _,j,o,rf,c.kp j,f⟩ ?_)
  rintro ch a w ⟨i633,l,ba,x,rfl,bt,al,o,h,c,f⟩;rcases l with _ | ⟨ck,l⟩
  · obtain rfl:=Fn o;have aw:=Do al bt
    refine S (S (G (R q 4 c j fun a c=>L f c j (Fg q (aj.m h) 0 j j j j) j fun a c=>R q 2 c j fun a c=>E (T ?_))))
    have c:=c.tr (t:=16) j (decide_eq_false (by omega));refine Fa c j (Ex (Xe (Xe (Xh (T (⟨_,x,j,h,c.kp j,f⟩))))))
  obtain ⟨b1,d,o⟩:=Fs o;obtain ⟨ce,al,aw⟩:=Dc al;unfold ref03_Lattice_Meet.b0 at d
  refine S (S (G (R q 4 c j fun a c=>L f c j (Fg q (aj.m h) 0 j j j j) j fun a c=>R q 2 c j fun a c=>E (T ?_))))
  have c:=c.tr (t:=16) j (decide_eq_true (by omega))
  refine Tr c j (K (T (S (X c f (fun e L a' w'=>∃ a3,ref03_Lattice_Meet.j1 k a3=some b1∧∃ ai,x.le ai∧Env a' 59 (sl e [0,1,2,7] [])∧Inv m g [] ai L w') ?_ ?_))))
  rotate_left
  · rintro a w ⟨a3,d,ai,br,c,f⟩;unfold ref03_Lattice_Meet.j1 at d;refine T (G (R q 3 c j fun a c=>E (T ?_)));cases d;have c:=c.setI (t:=7) j (Wc aw (Ln az))
    exact ⟨l.length,Nat.lt_succ_self _,i633 + 1,l,_,ai,j,aw,al,o,(h.t br),c.kp j,f⟩
  refine O (S (S ?_));obtain ⟨a4,d,bm⟩:=bd d;refine X c f (fun e L a' w'=>∃ n,x.le n∧Env a' 59 (sl e [0,1,2,7] [(30,.bool a4)])∧Inv m g [] n L w') ?_ ?_
  · refine G (R q 3 c j fun a c=>?_);obtain ⟨b4,bx,d⟩:=bd d;refine J cl_13 f c j j ((ref03_Lattice_Leq.ok k) bx f.pass0 (y.m h)) j ?_
    rintro a w _ bg _ ⟨rfl,rfl⟩ au f c;refine R q 2 c j fun a c=>?_;rcases Bo (!b4) with ad | ad
    · replace d:=ct ad d;have c:=c.tr (t:=24) j ad;refine R q 6 c j fun a c=>E (T ?_);cases d;exact ⟨bg,au,c.kp j,f⟩
    replace d:=cf ad d;have c:=c.tr (t:=24) j ad;refine R q 3 c j fun a c=>?_;obtain ⟨cm,bz,d⟩:=bd d
    refine J cl_13 f c j j ((ref03_Lattice_Leq.ok k) bz f.pass0 (y.m (h.t au))) j ?_;rintro a w _ bh _ ⟨rfl,rfl⟩ bq f c;refine R q 2 c j fun a c=>E (T ?_)
    cases d;exact ⟨bh,(au.t bq),c.kp j,f⟩
  rintro a w ⟨n,s,c,f⟩;have d:=bm;refine T (Cc (b:=a4) c j (fun aq=>?_) (fun aq=>?_))
  · replace d:=ct aq d;refine Ex (Xe (Xh (T (⟨_,d,n,s,c.kp j,f⟩))))
  replace d:=cf aq d;refine K (T (S (G (R q 1 c j fun a c=>E (T (S (S (G (R q 1 c j fun a c=>E (T ?_))))))))));obtain ⟨a5,z,bi⟩:=bd d
  refine X c f (fun e L a' w'=>∃ am ag,a5 = .go am∧n.le ag∧Env a' 59 (sl e [0,1,2,7] [(8,.bool am)])∧Inv m g [] ag L w') ?_ ?_;rotate_left
  · rintro a w ⟨am,ag,rfl,bn,c,f⟩;have d:=Lg bi;refine T (S (G (R q 1 c j fun a c=>E (T (Cc (b:=am) c j (fun ao=>?_) (fun ao=>?_))))));rotate_left
    · replace d:=cf ao d;refine K (xB (T (⟨_,d,ag,(s.t bn),c.kp j,f⟩)))
    replace d:=ct ao d;refine S (G (R q 2 c j fun a c=>E (T (V (Xb (Xr (Xr (Xr (Xb (Xr (Xr ?_)))))))))));cases d;obtain rfl:=Nr o;have d:=Le a0;cases d
    refine N (v:=_) c j ⟨_,_,_,j,f.nil,j,j⟩
  
  refine O (Q c f (fun e L n' a' w'=>∃ i1144 i ay u,n'=List.length i∧i1144≤af.Names.length∧af.Names.drop i1144=i∧forL (ref03_Lattice_Meet.b2 k a7 a8 a9 i633) i1144 i ay=some a5∧n.le u∧Env a' 59 (sl e [0,1,2,7] [(9,i_ (i1144:Int)),(8,.bool ay)])∧Inv m g [] u L w') _ ⟨0,_,_,n,j,Nat.zero_le _,j,z,rf,c.kp j,f⟩ ?_)
  rintro cg a w ⟨i1144,i,ay,u,rfl,bs,ak,z,p,c,f⟩;rcases i with _ | ⟨cj,i⟩
  · obtain rfl:=Fn z;have av:=Do ak bs
    refine S (S (G (R q 4 c j fun a c=>L f c j (Fg q (aj.m ((h.t s).t p)) 0 j j j j) j fun a c=>R q 2 c j fun a c=>E (T ?_))))
    have c:=c.tr (t:=37) j (decide_eq_false (by omega));refine Fa c j (Ex (Xe (Xe (Xh (T (⟨_,u,j,p,c.kp j,f⟩))))))
  obtain ⟨ci,d,z⟩:=Fs z;obtain ⟨cd,ak,av⟩:=Dc ak;unfold ref03_Lattice_Meet.b2 at d
  refine S (S (G (R q 4 c j fun a c=>L f c j (Fg q (aj.m ((h.t s).t p)) 0 j j j j) j fun a c=>R q 2 c j fun a c=>E (T ?_))))
  have c:=c.tr (t:=37) j (decide_eq_true (by omega));refine Tr c j (K (T (S ?_)));obtain ⟨b0,d,bj⟩:=bd d
  refine X c f (fun e L a' w'=>∃ ah,u.le ah∧Env a' 59 (sl e [0,1,2,7,9] [(8,.bool b0)])∧Inv m g [] ah L w') ?_ ?_;rotate_left
  · rintro a w ⟨ah,bo,c,f⟩;have d:=bj;refine T (G (R q 3 c j fun a c=>E (T ?_)));cases d;have c:=c.setI (t:=9) j (Wc av (Ln az))
    exact ⟨i.length,Nat.lt_succ_self _,i1144 + 1,i,_,ah,j,av,ak,z,(p.t bo),c.kp j,f⟩
  refine O (S ?_);obtain ⟨a2,d,bk⟩:=bd d;refine X c f (fun e L a' w'=>∃ aa,u.le aa∧Env a' 59 (sl e [0,1,2,7,8,9] [(56,.bool a2)])∧Inv m g [] aa L w') ?_ ?_
  rotate_left
  · rintro a w ⟨aa,a1,c,f⟩;have d:=bk;refine T (Cc (b:=a2) c j (fun ap=>?_) (fun ap=>?_));rotate_left
    · replace d:=cf ap d;refine K (xB (T ?_));cases d;exact ⟨aa,a1,c.kp j,f⟩
    replace d:=ct ap d;refine G (R q 1 c j fun a c=>E (xB (T ?_)));cases d;exact ⟨aa,a1,c.kp j,f⟩
  refine G (R q 3 c j fun a c=>?_);obtain ⟨b2,bu,d⟩:=bd d;refine J cl_13 f c j j ((ref03_Lattice_Leq.ok k) bu f.pass0 (y.m ((h.t s).t p))) j ?_
  rintro a w _ bc _ ⟨rfl,rfl⟩ ae f c;refine R q 1 c j fun a c=>?_;rcases Bo b2 with ab | ab;rotate_left
  · replace d:=cf ab d;have c:=c.tr (t:=44) j ab;refine R q 12 c j fun a c=>E (T ?_);cases d;exact ⟨bc,ae,c.kp j,f⟩
  replace d:=ct ab d;have c:=c.tr (t:=44) j ab;refine R q 3 c j fun a c=>?_;obtain ⟨b3,bv,d⟩:=bd d
  refine J cl_13 f c j j ((ref03_Lattice_Leq.ok k) bv f.pass0 (y.m (((h.t s).t p).t ae))) j ?_;rintro a w _ be _ ⟨rfl,rfl⟩ ar f c
  refine R q 2 c j fun a c=>?_;rcases Bo b3 with ac | ac;rotate_left
  · replace d:=cf ac d;have c:=c.tr (t:=50) j ac;refine R q 6 c j fun a c=>E (T ?_);cases d;exact ⟨be,(ae.t ar),c.kp j,f⟩
  replace d:=ct ac d;have c:=c.tr (t:=50) j ac;refine R q 3 c j fun a c=>?_;obtain ⟨cl,bw,d⟩:=bd d
  refine J cl_13 f c j j ((ref03_Lattice_Leq.ok k) bw f.pass0 (y.m ((((h.t s).t p).t ae).t ar))) j ?_;rintro a w _ bf _ ⟨rfl,rfl⟩ bp f c
  refine R q 2 c j fun a c=>E (T ?_);cases d;exact ⟨bf,((ae.t ar).t bp),c.kp j,f⟩

theorem cl_41:Callable Tryz.prog 41:=⟨_,Tryz.func41,by kernel_rfl,by kernel_rfl⟩

def ref03_New.C (s:(List ByteArray)→(List TPair)→Option ((Option Tref03_Lattice) × Int)):Prop:=∀ {d e r},s d e=some r→∀ {c b g i h l},Inv c b [] b [] c→(Sl b g i 1 (d.map D.str))→(Sl b h l 2 (e.map TPair.d))→Calls Tryz.prog 41 #[.slice g d.length i,.slice h e.length l] c (Ret c b [] fun G' L' v=>L'=[]∧∃ f,v = .tuple ⟨[.pointer f,i_ r.2]⟩∧Pt G' f 99 Tref03_Lattice.d r.1)
end Go.Proofs.YtknhbphhdfknaaaGreatDoor
