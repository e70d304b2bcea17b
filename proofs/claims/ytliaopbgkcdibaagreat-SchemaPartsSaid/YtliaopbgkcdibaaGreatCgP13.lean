/- The contracts: what the machine does at a call is what the plain function says. Written by mk.py. -/
import Derived.Test.YtliaopbgkcdibaaGreatCgP6
import Derived.Test.YtliaopbgkcdibaaGreatCgP7
import Derived.Test.YtliaopbgkcdibaaGreatCgP12
set_option linter.unusedVariables false
set_option linter.unusedSimpArgs false
set_option maxRecDepth 100000
namespace Go.Proofs.YtliaopbgkcdibaaGreat
open Go.RowKit
theorem ref06_P_End.ok (k:Nat):ref06_P_End.C (ref06_P_End k):=by
  intro l r d z g s ac aa ad f u
  unfold ref06_P_End at d
  refine Ci 38 Tryz.func50 j j j fun a c=>?_
  refine S (G (R q 2 c j fun a c=>E (T (S (S ?_)))));obtain ⟨y,d,ag⟩:=bd d
  refine X c f (fun e L a' w'=>∃ h,g.le h∧Env a' 38 (sl e [0] [(22,.bool y)])∧Inv z g s h L w') ?_ ?_
  · refine Cd mixed (by kernel_rfl) f (Y q 3 c j fun a c=>Z c j (B q 0 j j j j) j fun a c=>Y q 2 c j fun a c=>?_)
    rcases Bo (decide (l.E=(0:Int))) with i | i;rotate_left
    · replace d:=cf i d;have c:=c.tr (t:=9) j i;refine Y q 13 c j fun a c=>Qe ?_;intro w f;refine T ?_;cases d;exact ⟨g,rf,c.kp j,f⟩
    replace d:=ct i d;have c:=c.tr (t:=9) j i
    refine Y q 3 c j fun a c=>Z c j (B q 0 j j j j) j fun a c=>Y q 3 c j fun a c=>Z c j (B q 0 j j j j) j fun a c=>?_
    obtain ⟨ar,x,d⟩:=bd d;obtain ⟨an,ap,cs,aj,ai,ae⟩:=Sa u (Go x).1 (Go x).2;obtain rfl:=TToken.inv.1 ai
    refine Z c j (I q aj j j j) j fun a c=>Y q 1 c j fun a c=>Z c j (Fg q ae 0 j j j j) j fun a c=>Y q 2 c j fun a c=>Qe ?_;intro w f
    refine T ?_;cases d;exact ⟨g,rf,c.kp j,f⟩
  rintro a w ⟨h,ak,c,f⟩;have d:=ag;refine T ?_;obtain ⟨p,d,ah⟩:=bd d
  refine X c f (fun e L a' w'=>∃ m,h.le m∧Env a' 38 (sl e [0] [])∧Inv z g s m [.blk ac [.slice aa l.T.length ad,i_ l.I,i_ l.Deep,i_ p.1,i_ p.2] 105] w') ?_ ?_
  · refine Cc (b:=y) c j (fun o=>?_) (fun o=>?_);rotate_left
    · replace d:=cf o d;refine K (T ?_);cases d;exact ⟨h,rf,c.kp j,f⟩
    replace d:=ct o d;refine G (R q 1 c j fun a c=>?_);obtain ⟨aq,am,d⟩:=bd d;refine M 1 cl_68 f c j j (fun af=>(ref06_P_bad.ok k) am af (u.m ak)) j ?_
    rintro a w _ ab _ ⟨rfl,rfl⟩ al f c;refine E (T ?_);cases d;exact ⟨ab,al,c.kp j,f⟩
  rintro a w ⟨m,ao,c,f⟩;have d:=ah
  refine T (S (S (G (R q 3 c j fun a c=>L f c j (B q 0 j j j j) j fun a c=>R q 1 c j fun a c=>E (T (Cc (b:=decide (p.2=(0:Int))) c j (fun n=>?_) (fun n=>?_)))))))
  · replace d:=ct n d;refine S (G (R q 2 c j fun a c=>E (T (V (Xr ?_)))));cases d;refine N (v:=_) c j ⟨_,_,_,j,f,j,j⟩
  replace d:=cf n d
  refine K (T (S (Cd mixed (by kernel_rfl) f (Y q 3 c j fun a c=>Z c j (B q 0 j j j j) j fun a c=>Y q 3 c j fun a c=>Z c j (B q 0 j j j j) j fun a c=>Y q 2 c j fun a c=>Qe ?_))))
  intro w f;refine T (V ?_);cases d;refine N (v:=_) c j ⟨_,_,_,j,f,j,j⟩

theorem cl_30:Callable Tryz.prog 30:=⟨_,Tryz.func30,by kernel_rfl,by kernel_rfl⟩

def ref06_Schema.C (s:ByteArray→Option (TSchema × Int × Int)):Prop:=∀ {e r},s e=some r→∀ {b c },Inv b c [] c [] b→Calls Tryz.prog 30 #[.string e] b (Ret b c [] fun G' L' v=>L'=[]∧∃ d,v = .tuple ⟨[.agg ⟨d⟩,i_ r.2.1,i_ r.2.2]⟩∧Rep G' r.1.d d)

theorem ref06_Schema.ok (k:Nat):ref06_Schema.C (ref06_Schema k):=by
  intro bl r f a8 aj  d
  unfold ref06_Schema at f
  refine Ci 38 Tryz.func30 j j j fun a c=>?_
  refine S (G (A d c j z_26 j j fun a w bf c d=>R q 2 c j fun a c=>E (T (S (G (R q 1 c j fun a c=>?_))))));obtain ⟨a9,a5,f⟩:=bd f
  refine J cl_48 d c j j ((ref06_New.ok k) a5 d.pass0 ) j ?_;rintro a w _ be _ ⟨bg,bb,bh,rfl,rfl,ad⟩ bj d c
  refine R q 1 c j fun a c=>E (T (S (S (G (R q 3 c j fun a c=>L d c j (B q 0 j j j j) j fun a c=>R q 1 c j fun a c=>E (T (Cc (b:=!decide (a9.E=(0:Int))) c j (fun ac=>?_) (fun ac=>?_))))))))
  · replace f:=ct ac f
    refine S (Mx [0] [] (.step 0 0 (.step 1 0 (.step 2 0 (.step 3 0 (.step 4 1 (.step 5 0 (.step 6 0 (.step 7 0 (.step 8 1 (.step 9 2 (.step 10 0 (.step 11 0 .nil)))))))))))) mixed (by kernel_rfl) d (by decide) j fun w d hS=>Dr c j j (Bd q j z_26 j j) j fun a c=>H q 3 c j fun a c=>Dd hS c j j (Rw fun _=>(B q 0 j j j j)) j fun a c=>H q 3 c j fun a c=>Dd hS c j j (Rw fun _=>(B q 0 j j j j)) j fun a c=>Df j (W q 1 d c j j j j j j j j j j fun a w c d=>De (d.sw [0] (by decide) j rf) fun hS=>H q 2 c j fun a c=>Dz (T (V (Xr ?_)))))
    cases f
    refine U q c d (.cell 1 j j j j (.tmp j (.tmp j .nil))) j ⟨_,_,_,j,d.nil,j,_,j,((TSchema.inv (x:=(TSchema.mk [] [] [] [] [] (0:Int)))).2 ⟨none,0,none,0,none,0,none,0,none,0,j,(Sn _ _ _ _ (Nat.zero_le _)),(Sn _ _ _ _ (Nat.zero_le _)),(Sn _ _ _ _ (Nat.zero_le _)),(Sn _ _ _ _ (Nat.zero_le _)),(Sn _ _ _ _ (Nat.zero_le _))⟩)⟩
  replace f:=cf ac f;refine K (T (S (G (R q 1 c j fun a c=>?_))));obtain ⟨bm,a6,f⟩:=bd f;refine M 1 cl_49 d c j j (fun aa=>(ref06_P_Schema.ok k) a6 aa ad) j ?_
  rintro a w _ bc _ ⟨bi,rfl,rfl,a2⟩ a4 d c;obtain ⟨ae,al,af,am,ag,an,ah,ao,ai,ap,rfl,aq,ar,au,av,aw⟩:=TSchema.inv.1 a2
  refine A d c j z_26 j j fun a w ak c d=>W q 0 d c j j j j j j j j j j fun a w c d=>E (T (S (G (R q 1 c j fun a c=>?_))))
  have d:=d.pick [1,0,2] (by decide) j;obtain ⟨ba,a7,f⟩:=bd f;refine M 1 cl_50 d c j j (fun aa=>(ref06_P_End.ok k) a7 aa (ad.m a4)) j ?_;rintro a w _ z _ ⟨rfl,rfl⟩ i d c
  refine R q 5 c j fun a c=>E (T (S (S (G (R q 2 c j fun a c=>E (T ?_))))));obtain ⟨g,f,a3⟩:=bd f
  refine X c d (fun e L a' w'=>∃ h l s m t n u o v p y,z.le h∧Env a' 38 (sl e [2,6,7,8] [])∧Inv a8 aj [] h [.blk ak [.slice l g.1.length s,.slice m g.2.1.length t,.slice n g.2.2.1.length u,.slice o g.2.2.2.1.length v,.slice p g.2.2.2.2.1.length y,i_ g.2.2.2.2.2] 26,nt L 2] w'∧Sl h l s 1 (g.1.map D.str)∧Sl h m t 2 (g.2.1.map TPair.d)∧Sl h n u 6 (g.2.2.1.map TTable.d)∧Sl h o v 2 (g.2.2.2.1.map TPair.d)∧Sl h p y 2 (g.2.2.2.2.1.map TPair.d)) ?_ ?_
  rotate_left
  · rintro a w ⟨h,l,s,m,t,n,u,o,v,p,y,bk,c,d,ax,ay,az,a0,a1⟩;have f:=a3
    refine T (S (G (L d c j (B q 0 j j j j) j fun a c=>R q 2 c j fun a c=>W q 1 d c j j j j j j j j j j fun a w c d=>R q 2 c j fun a c=>E (T (V ?_)))))
    cases f
    refine U q c d (.cell 1 j j j j (.tmp j (.tmp j .nil))) j ⟨_,_,_,j,d.nil,j,_,j,((TSchema.inv (x:=(TSchema.mk g.1 g.2.1 g.2.2.1 g.2.2.2.1 g.2.2.2.2.1 g.2.2.2.2.2))).2 ⟨l,s,m,t,n,u,o,v,p,y,j,ax,ay,az,a0,a1⟩)⟩
  refine Cc (b:=!decide (ba.2.1=(0:Int))) c j (fun ab=>?_) (fun ab=>?_);rotate_left
  · replace f:=cf ab f;refine K (T ?_);cases f
    exact ⟨z,ae,al,af,am,ag,an,ah,ao,ai,ap,rf,c.kp j,(d.dropN 1 j),(aq.m i),(ar.m i),(au.m i),(av.m i),(aw.m i)⟩
  replace f:=ct ab f;refine G (L d c j (Bd q j z_26 j j) j fun a c=>W q 1 d c j j j j j j j j j j fun a w c d=>E (T ?_));cases f
  exact ⟨z,none,0,none,0,none,0,none,0,none,0,rf,c.kp j,(d.dropN 1 j),(Sn _ _ _ _ (Nat.zero_le _)),(Sn _ _ _ _ (Nat.zero_le _)),(Sn _ _ _ _ (Nat.zero_le _)),(Sn _ _ _ _ (Nat.zero_le _)),(Sn _ _ _ _ (Nat.zero_le _))⟩

theorem cl_14:Callable Tryz.prog 14:=⟨_,Tryz.func14,by kernel_rfl,by kernel_rfl⟩

def law08_Example.C (s:ByteArray→Option TSchema):Prop:=∀ {e r},s e=some r→∀ {b c },Inv b c [] c [] b→Calls Tryz.prog 14 #[.string e] b (Ret b c [] fun G' L' v=>L'=[]∧∃ d,v = .agg ⟨d⟩∧Rep G' r.d d)

theorem law08_Example.ok (k:Nat):law08_Example.C (law08_Example k):=by
  intro ai r d aj ac  c
  unfold law08_Example at d
  refine Ci 15 Tryz.func14 j j j fun a b=>?_
  refine S (G (A c b j z_26 j j fun a w ae b c=>E (T (S (G (R q 1 b j fun a b=>?_))))));obtain ⟨_,aa,d⟩:=bd d
  refine L c b j (f_scat aa j j) j fun a b=>?_;obtain ⟨_,ab,d⟩:=bd d;refine L c b j (f_scat ab j j) j fun a b=>?_;obtain ⟨ak,z,d⟩:=bd d
  refine J cl_30 c b j j ((ref06_Schema.ok k) z c.pass0 ) j ?_;rintro a w _ ad _ ⟨rfl,ag,rfl,y⟩ ah c b
  obtain ⟨e,l,f,m,g,n,h,o,i,p,rfl,s,t,u,v,x⟩:=TSchema.inv.1 y
  refine R q 4 b j fun a b=>A c b j z_26 j j fun a w af b c=>W q 0 c b j j j j j j j j j j fun a w b c=>R q 2 b j fun a b=>E (T (S (G (L c b j (B q 0 j j j j) j fun a b=>W q 1 c b j j j j j j j j j j fun a w b c=>E (T (V ?_))))))
  cases d;refine U q b c (.cell 1 j j j j .nil) j ⟨_,_,_,j,c.nil,j,_,j,(TSchema.inv.2 ⟨e,l,f,m,g,n,h,o,i,p,j,s,t,u,v,x⟩)⟩

theorem cl_15:Callable Tryz.prog 15:=⟨_,Tryz.func15,by kernel_rfl,by kernel_rfl⟩

def schema_Catalog_Limit.C (s:(Option Tschema_Catalog)→Option Int):Prop:=∀ {e r},s e=some r→∀ {c b d},Inv c b [] b [] c→(Pt b d 58 Tschema_Catalog.d e)→Calls Tryz.prog 15 #[.pointer d] c (Ret c b [] fun G' L' v=>L'=[]∧v=i_ r)

theorem schema_Catalog_Limit.ok (k:Nat):schema_Catalog_Limit.C (schema_Catalog_Limit k):=by
  intro m r d ah x n e h
  unfold schema_Catalog_Limit at d
  refine Ci 9 Tryz.func15 j j j fun a c=>?_
  
  refine S (G (R q 1 c j fun a c=>E (T (S (S (G (R q 1 c j fun a c=>L e c j (f_pnil up_29 h j j) j fun a c=>E (T (Cc (b:=m.isNone) c j (fun f=>?_) (fun f=>?_))))))))))
  · replace d:=ct f d;refine S (G (R q 1 c j fun a c=>E (T (V (Xr ?_)))));cases d;refine N (v:=_) c j ⟨_,_,_,j,e.nil,j,j⟩
  replace d:=cf f d;refine K (T (S (G (R q 1 c j fun a c=>?_))));rcases (h).cases with ⟨g,rfl⟩ | ⟨ai,y,cs,g,rfl,l,i⟩
  · cases op_n g d
  replace d:=op_s g d;obtain ⟨o,p,z,s,t,aa,u,ab,rfl,ac,ad,ae,af,ag⟩:=Tschema_Catalog.inv.1 l
  refine R q 2 c j fun a c=>L e c j (Fg q i 5 j j j j) j fun a c=>R q 1 c j fun a c=>E (T (V ?_));cases d
  refine N (v:=_) c j ⟨_,_,_,j,e.nil,j,j⟩

theorem cl_5:Callable Tryz.prog 5:=⟨_,Tryz.func5,by kernel_rfl,by kernel_rfl⟩

def law08_alive.C (s:Option Bool):Prop:=∀ { r},s =some r→∀ {b c },Inv b c [] c [] b→Calls Tryz.prog 5 #[] b (Ret b c [] fun G' L' v=>L'=[]∧v = .bool r)

theorem law08_alive.ok (k:Nat):law08_alive.C (law08_alive k):=by
  intro  r d ak ag  f
  unfold law08_alive at d
  refine Ci 73 Tryz.func5 j j j fun a c=>?_
  refine S (G (R q 1 c j fun a c=>E (T (S (G ?_)))));obtain ⟨dc,b1,d⟩:=bd d;refine J cl_14 f c j j ((law08_Example.ok k) b1 f.pass0 ) j ?_
  rintro a w _ cj _ ⟨rfl,cx,rfl,bs⟩ c7 f c;obtain ⟨ao,a1,ap,a2,aq,a3,ar,a4,au,a5,rfl,bb,bc,be,bf,bg⟩:=TSchema.inv.1 bs;obtain ⟨an,b2,d⟩:=bd d
  refine J cl_6 f c j j ((schema_New.ok k) b2 f.pass0 (TSchema.inv.2 ⟨ao,a1,ap,a2,aq,a3,ar,a4,au,a5,j,bb,bc,be,bf,bg⟩)) j ?_
  rintro a w _ ck _ ⟨rfl,cg,rfl,x⟩ c8 f c;refine R q 7 c j fun a c=>E (T (S (G ?_)));obtain ⟨dd,b3,d⟩:=bd d
  refine J cl_14 f c j j ((law08_Example.ok k) b3 f.pass0 ) j ?_;rintro a w _ cl _ ⟨rfl,cy,rfl,bt⟩ y f c
  obtain ⟨av,a6,aw,a7,ax,a8,ay,a9,az,ba,rfl,bh,bi,bj,bk,bl⟩:=TSchema.inv.1 bt;obtain ⟨b7,b4,d⟩:=bd d
  refine J cl_6 f c j j ((schema_New.ok k) b4 f.pass0 (TSchema.inv.2 ⟨av,a6,aw,a7,ax,a8,ay,a9,az,ba,j,bh,bi,bj,bk,bl⟩)) j ?_
  rintro a w _ h _ ⟨rfl,ch,rfl,c5⟩ z f c;refine R q 7 c j fun a c=>E (T (S (S ?_)));obtain ⟨aj,d,bo⟩:=bd d
  refine X c f (fun e L a' w'=>∃ ac,h.le ac∧Env a' 73 (sl e [1] [(35,.bool aj)])∧Inv ak ag [] ac L w') ?_ ?_
  · refine G (R q 1 c j fun a c=>L f c j (f_pnil up_29 (x.m (y.t z)) j j) j fun a c=>R q 1 c j fun a c=>?_);rcases Bo an.1.isNone with p | p
    · replace d:=ct p d;have c:=c.tr (t:=24) j p;refine R q 11 c j fun a c=>E (T ?_);cases d;exact ⟨h,rf,c.kp j,f⟩
    replace d:=cf p d;have c:=c.tr (t:=24) j p;refine R q 4 c j fun a c=>?_;rcases Bo (!decide (an.2.2=(0:Int))) with s | s
    · replace d:=ct s d;have c:=c.tr (t:=28) j s;refine R q 7 c j fun a c=>E (T ?_);cases d;exact ⟨h,rf,c.kp j,f⟩
    replace d:=cf s d;have c:=c.tr (t:=28) j s;refine R q 4 c j fun a c=>?_;rcases Bo (!decide (b7.2.2=(15:Int))) with u | u
    · replace d:=ct u d;have c:=c.tr (t:=32) j u;refine R q 3 c j fun a c=>E (T ?_);cases d;exact ⟨h,rf,c.kp j,f⟩
    replace d:=cf u d;have c:=c.tr (t:=32) j u;refine R q 3 c j fun a c=>E (T ?_);cases d;exact ⟨h,rf,c.kp j,f⟩
  rintro a w ⟨ac,ae,c,f⟩;have d:=bo;refine T (Cc (b:=aj) c j (fun ad=>?_) (fun ad=>?_))
  · replace d:=ct ad d;refine S (G (R q 1 c j fun a c=>E (T (V (Xr ?_)))));cases d;refine N (v:=_) c j ⟨_,_,_,j,f.nil,j,j⟩
  replace d:=cf ad d;refine K (T (S (G (R q 1 c j fun a c=>?_))));obtain ⟨b6,bx,d⟩:=bd d
  refine J cl_8 f c j j ((schema_Catalog_Tables.ok k) bx f.pass0 (x.m ((y.t z).t ae))) j ?_;rintro a w _ ci _ ⟨rfl,b8,co,rfl,ah⟩ ai f c
  refine R q 1 c j fun a c=>E (T (S (G (R q 1 c j fun a c=>?_))));obtain ⟨al,bz,d⟩:=bd d
  refine J cl_10 f c j j ((schema_Catalog_Channel.ok k) bz f.pass0 (x.m (((y.t z).t ae).t ai))) j ?_;rintro a w _ g _ ⟨rfl,rfl⟩ af f c
  refine R q 5 c j fun a c=>E (T (S ?_));obtain ⟨b5,d,bp⟩:=bd d;refine X c f (fun e L a' w'=>∃ ab,g.le ab∧Env a' 73 [(0,.bool b5)]∧Inv ak ag [] ab L w') ?_ ?_
  rotate_left
  · rintro a w ⟨ab,c6,c,f⟩;have d:=bp;refine T (V ?_);cases d;refine N (v:=_) c j ⟨_,_,_,j,f.nil,j,j⟩
  refine G (R q 4 c j fun a c=>?_);rcases Bo (decide ((b6.length:Int)=(1:Int))) with i | i;rotate_left
  · replace d:=cf i d;have c:=c.tr (t:=46) j i;refine R q 27 c j fun a c=>E (T ?_);cases d;exact ⟨g,rf,c.kp j,f⟩
  replace d:=ct i d;have c:=c.tr (t:=46) j i;refine R q 1 c j fun a c=>?_;obtain ⟨am,aa,d⟩:=bd d
  obtain ⟨cm,c9,cs,bu,bq,bm⟩:=Sa (ah.m af) (Go aa).1 (Go aa).2;obtain ⟨b9,cp,ca,cq,cb,cr,rfl,cz,c0,c1⟩:=TRelation.inv.1 bq
  refine L f c j (I q bu j j j) j fun a c=>R q 1 c j fun a c=>L f c j (Fg q bm 4 j j j j) j fun a c=>R q 3 c j fun a c=>?_
  rcases Bo (decide (am.Hide=(1:Int))) with l | l;rotate_left
  · replace d:=cf l d;have c:=c.tr (t:=53) j l;refine R q 20 c j fun a c=>E (T ?_);cases d;exact ⟨g,rf,c.kp j,f⟩
  replace d:=ct l d;have c:=c.tr (t:=53) j l;refine R q 1 c j fun a c=>?_;obtain ⟨cn,da,cs,bv,br,bn⟩:=Sa (ah.m af) (Go aa).1 (Go aa).2
  obtain ⟨cc,cu,cd,cv,ce,cw,rfl,c2,c3,c4⟩:=TRelation.inv.1 br
  refine L f c j (I q bv j j j) j fun a c=>R q 1 c j fun a c=>L f c j (Fg q bn 3 j j j j) j fun a c=>R q 4 c j fun a c=>?_
  rcases Bo (decide ((am.Key.length:Int)=(1:Int))) with m | m;rotate_left
  · replace d:=cf m d;have c:=c.tr (t:=61) j m;refine R q 12 c j fun a c=>E (T ?_);cases d;exact ⟨g,rf,c.kp j,f⟩
  replace d:=ct m d;have c:=c.tr (t:=61) j m;refine R q 3 c j fun a c=>?_;rcases Bo al.2 with n | n;rotate_left
  · replace d:=cf n d;have c:=c.tr (t:=64) j n;refine R q 9 c j fun a c=>E (T ?_);cases d;exact ⟨g,rf,c.kp j,f⟩
  replace d:=ct n d;have c:=c.tr (t:=64) j n;refine R q 4 c j fun a c=>?_;rcases Bo (decide (al.1=(0:Int))) with o | o;rotate_left
  · replace d:=cf o d;have c:=c.tr (t:=68) j o;refine R q 5 c j fun a c=>E (T ?_);cases d;exact ⟨g,rf,c.kp j,f⟩
  replace d:=ct o d;have c:=c.tr (t:=68) j o;refine R q 1 c j fun a c=>?_;obtain ⟨db,b0,d⟩:=bd d
  refine J cl_15 f c j j ((schema_Catalog_Limit.ok k) b0 f.pass0 (x.m ((((y.t z).t ae).t ai).t af))) j ?_;rintro a w _ a0 _ ⟨rfl,rfl⟩ bw f c
  refine R q 3 c j fun a c=>E (T ?_);cases d;exact ⟨a0,bw,c.kp j,f⟩

theorem cl_19:Callable Tryz.prog 19:=⟨_,Tryz.func19,by kernel_rfl,by kernel_rfl⟩

def ref03_Ints.C (s:(List Int)→(List Int)→Option Bool):Prop:=∀ {d e r},s d e=some r→∀ {c b f h g i},Inv c b [] b [] c→(Sl b f h 1 (d.map di))→(Sl b g i 1 (e.map di))→Calls Tryz.prog 19 #[.slice f d.length h,.slice g e.length i] c (Ret c b [] fun G' L' v=>L'=[]∧v = .bool r)

theorem ref03_Ints.ok (k:Nat):ref03_Ints.C (ref03_Ints k):=by
  intro x ac r d af i ar ax au ay f y ag
  unfold ref03_Ints at d
  refine Ci 26 Tryz.func19 j j j fun a c=>?_
  
  refine S (G (R q 1 c j fun a c=>E (T (S (S (G (R q 5 c j fun a c=>E (T (Cc (b:=!decide ((x.length:Int)=(ac.length:Int))) c j (fun s=>?_) (fun s=>?_))))))))))
  · replace d:=ct s d;refine S (G (R q 1 c j fun a c=>E (T (V (Xr ?_)))));cases d;refine N (v:=_) c j ⟨_,_,_,j,f.nil,j,j⟩
  replace d:=cf s d;refine K (T (S (S (G (R q 1 c j fun a c=>E (T ?_))))));obtain ⟨ab,h,z⟩:=bd d
  refine X c f (fun e L a' w'=>∃ ae o,ab = .go ae∧i.le o∧Env a' 26 []∧Inv af i [] o L w') ?_ ?_;rotate_left
  · rintro a w ⟨ae,o,rfl,az,c,f⟩;have d:=Lg z;refine T (S (G (R q 1 c j fun a c=>E (T (V ?_)))));cases d;refine N (v:=_) c j ⟨_,_,_,j,f.nil,j,j⟩
  
  refine O (Q c f (fun e L n' a' w'=>∃ i37 g ad l,n'=List.length g∧i37≤x.length∧x.drop i37=g∧forL (ref03_Ints.b0 k ac) i37 g ad=some ab∧i.le l∧Env a' 26 (sl e [0,1] [(5,i_ (i37:Int))])∧Inv af i [] l L w') _ ⟨0,_,_,i,j,Nat.zero_le _,j,h,rf,c.kp j,f⟩ ?_)
  rintro a0 a w ⟨i37,g,ad,l,rfl,an,m,h,n,c,f⟩;rcases g with _ | ⟨ap,g⟩
  · obtain rfl:=Fn h;have u:=Do m an;refine S (S (G (R q 4 c j fun a c=>E (T ?_))));have c:=c.tr (t:=14) j (decide_eq_false (by omega))
    refine Fa c j (Ex (Xe (Xe (Xh (T (⟨_,l,j,n,c.kp j,f⟩))))))
  obtain ⟨a3,d,h⟩:=Fs h;obtain ⟨ao,m,u⟩:=Dc m;unfold ref03_Ints.b0 at d;refine S (S (G (R q 4 c j fun a c=>E (T ?_))))
  have c:=c.tr (t:=14) j (decide_eq_true (by omega));refine Tr c j (K (T (S (O (S (Cd mixed (by kernel_rfl) f (Y q 2 c j fun a c=>?_)))))))
  obtain ⟨av,a1,cs,al,aj,ah⟩:=Sa (y.m n) (Int.natCast_nonneg _) (natIdx ao);obtain rfl:=rep_int.1 aj
  refine Z c j (I q al j j j) j fun a c=>Z c j (Fg q ah 0 j j j j) j fun a c=>Y q 2 c j fun a c=>?_;obtain ⟨aq,aa,d⟩:=bd d
  obtain ⟨aw,a2,cs,am,ak,ai⟩:=Sa (ag.m n) (Go aa).1 (Go aa).2;obtain rfl:=rep_int.1 ak
  refine Z c j (I q am j j j) j fun a c=>Z c j (Fg q ai 0 j j j j) j fun a c=>Y q 1 c j fun a c=>Qe ?_;intro w f
  refine T (Cc (b:=!decide (ap=aq)) c j (fun p=>?_) (fun p=>?_));rotate_left
  · replace d:=cf p d;refine K (xB (T (G (R q 3 c j fun a c=>E (T ?_)))));cases d;have c:=c.setI (t:=5) j (Wc u (Ln y))
    exact ⟨g.length,Nat.lt_succ_self _,i37 + 1,g,_,l,j,u,m,h,n,c.kp j,f⟩
  replace d:=ct p d;refine S (G (R q 1 c j fun a c=>E (T (V (Xb (Xr (Xr (Xb (Xr (Xr ?_))))))))));cases d;obtain rfl:=Nr h;have d:=Le z;cases d
  refine N (v:=_) c j ⟨_,_,_,j,f.nil,j,j⟩

theorem cl_20:Callable Tryz.prog 20:=⟨_,Tryz.func20,by kernel_rfl,by kernel_rfl⟩

def ref06_SameExprs.C (s:(List TExpr)→(List TExpr)→Option Bool):Prop:=∀ {d e r},s d e=some r→∀ {c b f h g i},Inv c b [] b [] c→(Sl b f h 6 (d.map TExpr.d))→(Sl b g i 6 (e.map TExpr.d))→Calls Tryz.prog 20 #[.slice f d.length h,.slice g e.length i] c (Ret c b [] fun G' L' v=>L'=[]∧v = .bool r)

theorem cl_46:Callable Tryz.prog 46:=⟨_,Tryz.func46,by kernel_rfl,by kernel_rfl⟩

def ref06_SameExpr.C (s:TExpr→TExpr→Option Bool):Prop:=∀ {f g r},s f g=some r→∀ {c b e d},Inv c b [] b [] c→(Rep b f.d e)→(Rep b g.d d)→Calls Tryz.prog 46 #[.agg ⟨e⟩,.agg ⟨d⟩] c (Ret c b [] fun G' L' v=>L'=[]∧v = .bool r)

theorem cl_58:Callable Tryz.prog 58:=⟨_,Tryz.func58,by kernel_rfl,by kernel_rfl⟩

def ref06_SameQueries.C (s:(List TQuery)→(List TQuery)→Option Bool):Prop:=∀ {d e r},s d e=some r→∀ {c b f h g i},Inv c b [] b [] c→(Sl b f h 10 (d.map TQuery.d))→(Sl b g i 10 (e.map TQuery.d))→Calls Tryz.prog 58 #[.slice f d.length h,.slice g e.length i] c (Ret c b [] fun G' L' v=>L'=[]∧v = .bool r)

theorem cl_75:Callable Tryz.prog 75:=⟨_,Tryz.func75,by kernel_rfl,by kernel_rfl⟩

def ref06_SameQuery.C (s:TQuery→TQuery→Option Bool):Prop:=∀ {f g r},s f g=some r→∀ {c b d e},Inv c b [] b [] c→(Rep b f.d d)→(Rep b g.d e)→Calls Tryz.prog 75 #[.agg ⟨d⟩,.agg ⟨e⟩] c (Ret c b [] fun G' L' v=>L'=[]∧v = .bool r)

theorem cl_82:Callable Tryz.prog 82:=⟨_,Tryz.func82,by kernel_rfl,by kernel_rfl⟩

def ref06_SameFroms.C (s:(List TFrom)→(List TFrom)→Option Bool):Prop:=∀ {d e r},s d e=some r→∀ {c b f h g i},Inv c b [] b [] c→(Sl b f h 7 (d.map TFrom.d))→(Sl b g i 7 (e.map TFrom.d))→Calls Tryz.prog 82 #[.slice f d.length h,.slice g e.length i] c (Ret c b [] fun G' L' v=>L'=[]∧v = .bool r)

theorem ref06_SameExprs.F_ok (k:Nat) (s_ref06_SameExprs:(List TExpr)→(List TExpr)→Option Bool) (s_ref06_SameExpr:TExpr→TExpr→Option Bool) (s_ref06_SameQueries:(List TQuery)→(List TQuery)→Option Bool) (s_ref06_SameQuery:TQuery→TQuery→Option Bool) (s_ref06_SameFroms:(List TFrom)→(List TFrom)→Option Bool) (hs_ref06_SameExprs:ref06_SameExprs.C s_ref06_SameExprs) (hs_ref06_SameExpr:ref06_SameExpr.C s_ref06_SameExpr) (hs_ref06_SameQueries:ref06_SameQueries.C s_ref06_SameQueries) (hs_ref06_SameQuery:ref06_SameQuery.C s_ref06_SameQuery) (hs_ref06_SameFroms:ref06_SameFroms.C s_ref06_SameFroms):ref06_SameExprs.C (ref06_SameExprs.F k s_ref06_SameExprs s_ref06_SameExpr s_ref06_SameQueries s_ref06_SameQuery s_ref06_SameFroms):=by
  intro y ad r d ag l a6 ba a7 bb f z ar
  unfold ref06_SameExprs.F at d
  refine Ci 27 Tryz.func20 j j j fun a c=>?_
  
  refine S (G (R q 1 c j fun a c=>E (T (S (S (G (R q 5 c j fun a c=>E (T (Cc (b:=!decide ((y.length:Int)=(ad.length:Int))) c j (fun u=>?_) (fun u=>?_))))))))))
  · replace d:=ct u d;refine S (G (R q 1 c j fun a c=>E (T (V (Xr ?_)))));cases d;refine N (v:=_) c j ⟨_,_,_,j,f.nil,j,j⟩
  replace d:=cf u d;refine K (T (S (S (G (R q 1 c j fun a c=>E (T ?_))))));obtain ⟨ac,i,aa⟩:=bd d
  refine X c f (fun e L a' w'=>∃ af p,ac = .go af∧l.le p∧Env a' 27 []∧Inv ag l [] p L w') ?_ ?_;rotate_left
  · rintro a w ⟨af,p,rfl,bc,c,f⟩;have d:=Lg aa;refine T (S (G (R q 1 c j fun a c=>E (T (V ?_)))));cases d;refine N (v:=_) c j ⟨_,_,_,j,f.nil,j,j⟩
  
  refine O (Q c f (fun e L n' a' w'=>∃ i65 g ae m,n'=List.length g∧i65≤y.length∧y.drop i65=g∧forL (ref06_SameExprs.b0 k s_ref06_SameExprs s_ref06_SameExpr s_ref06_SameQueries s_ref06_SameQuery s_ref06_SameFroms ad) i65 g ae=some ac∧l.le m∧Env a' 27 (sl e [0,1] [(5,i_ (i65:Int))])∧Inv ag l [] m L w') _ ⟨0,_,_,l,j,Nat.zero_le _,j,i,rf,c.kp j,f⟩ ?_)
  rintro be a w ⟨i65,g,ae,m,rfl,a2,n,i,o,c,f⟩;rcases g with _ | ⟨bi,g⟩
  · obtain rfl:=Fn i;have x:=Do n a2;refine S (S (G (R q 4 c j fun a c=>E (T ?_))));have c:=c.tr (t:=14) j (decide_eq_false (by omega))
    refine Fa c j (Ex (Xe (Xe (Xh (T (⟨_,m,j,o,c.kp j,f⟩))))))
  obtain ⟨bh,d,i⟩:=Fs i;obtain ⟨a3,n,x⟩:=Dc n;unfold ref06_SameExprs.b0 at d;refine S (S (G (R q 4 c j fun a c=>E (T ?_))))
  have c:=c.tr (t:=14) j (decide_eq_true (by omega));refine Tr c j (K (T (S (O (S (Cd mixed (by kernel_rfl) f (Y q 2 c j fun a c=>?_)))))))
  obtain ⟨a8,bf,cs,a1,az,ax⟩:=Sa (z.m o) (Int.natCast_nonneg _) (natIdx a3);obtain ⟨aj,an,ak,ao,rfl,au,av⟩:=TExpr.inv.1 az
  refine Z c j (I q a1 j j j) j fun a c=>Z c j (Fg q ax 0 j j j j) j fun a c=>Y q 2 c j fun a c=>?_;obtain ⟨bj,ab,d⟩:=bd d
  obtain ⟨a9,bg,cs,a0,ay,aw⟩:=Sa (ar.m o) (Go ab).1 (Go ab).2;obtain ⟨ah,al,ai,am,rfl,ap,aq⟩:=TExpr.inv.1 ay
  refine Z c j (I q a0 j j j) j fun a c=>Z c j (Fg q aw 0 j j j j) j fun a c=>?_;obtain ⟨a5,a4,d⟩:=bd d
  refine Qc cl_46 c j j (fun w f=>hs_ref06_SameExpr a4 f.pass0 (TExpr.inv.2 ⟨aj,an,ak,ao,j,au,av⟩) (TExpr.inv.2 ⟨ah,al,ai,am,j,ap,aq⟩)) (fun _ _ _ h=>h.2) j fun a c=>Y q 1 c j fun a c=>Qe ?_
  intro w f;refine T (Cc (b:=!a5) c j (fun s=>?_) (fun s=>?_));rotate_left
  · replace d:=cf s d;refine K (xB (T (G (R q 3 c j fun a c=>E (T ?_)))));cases d;have c:=c.setI (t:=5) j (Wc x (Ln z))
    exact ⟨g.length,Nat.lt_succ_self _,i65 + 1,g,_,m,j,x,n,i,o,c.kp j,f⟩
  replace d:=ct s d;refine S (G (R q 1 c j fun a c=>E (T (V (Xb (Xr (Xr (Xb (Xr (Xr ?_))))))))));cases d;obtain rfl:=Nr i;have d:=Le aa;cases d
  refine N (v:=_) c j ⟨_,_,_,j,f.nil,j,j⟩

theorem ref06_SameExpr.F_ok (k:Nat) (s_ref06_SameExprs:(List TExpr)→(List TExpr)→Option Bool) (s_ref06_SameExpr:TExpr→TExpr→Option Bool) (s_ref06_SameQueries:(List TQuery)→(List TQuery)→Option Bool) (s_ref06_SameQuery:TQuery→TQuery→Option Bool) (s_ref06_SameFroms:(List TFrom)→(List TFrom)→Option Bool) (hs_ref06_SameExprs:ref06_SameExprs.C s_ref06_SameExprs) (hs_ref06_SameExpr:ref06_SameExpr.C s_ref06_SameExpr) (hs_ref06_SameQueries:ref06_SameQueries.C s_ref06_SameQueries) (hs_ref06_SameQuery:ref06_SameQuery.C s_ref06_SameQuery) (hs_ref06_SameFroms:ref06_SameFroms.C s_ref06_SameFroms):ref06_SameExpr.C (ref06_SameExpr.F k s_ref06_SameExprs s_ref06_SameExpr s_ref06_SameQueries s_ref06_SameQuery s_ref06_SameFroms):=by
  intro o p r c aj f ay ax d ae ac
  unfold ref06_SameExpr.F at c
  obtain ⟨al,av,an,aw,rfl,aa,ab⟩:=TExpr.inv.1 ae
  obtain ⟨ao,ar,am,au,rfl,y,z⟩:=TExpr.inv.1 ac
  refine Ci 45 Tryz.func46 j j j fun a b=>?_
  refine S (G (s_box d b j j j j fun a w ap b d=>s_box d b j j j j fun a w aq b d=>R q 1 b j fun a b=>E (T (S ?_))));obtain ⟨ai,c,ad⟩:=bd c
  refine X b d (fun e L a' w'=>∃ s,f.le s∧Env a' 45 [(4,.bool ai)]∧Inv aj f [] s [] w') ?_ ?_;rotate_left
  · rintro a w ⟨s,az,b,d⟩;have c:=ad;refine T (V ?_);cases c;refine N (v:=_) b j ⟨_,_,_,j,d.nil,j,j⟩
  
  refine G (R q 1 b j fun a b=>L d b j (B q 1 j j j j) j fun a b=>R q 1 b j fun a b=>L d b j (B q 0 j j j j) j fun a b=>R q 2 b j fun a b=>?_)
  rcases Bo (decide (o.Kind=p.Kind)) with g | g;rotate_left
  · replace c:=cf g c;have b:=b.tr (t:=10) j g;refine R q 35 b j fun a b=>E (T ?_);cases c;exact ⟨f,rf,b.kp j,(d.dropN 2 j)⟩
  replace c:=ct g c;have b:=b.tr (t:=10) j g
  refine R q 1 b j fun a b=>L d b j (B q 1 j j j j) j fun a b=>R q 1 b j fun a b=>L d b j (B q 0 j j j j) j fun a b=>R q 3 b j fun a b=>?_
  rcases Bo (decide (o.N=p.N)) with h | h;rotate_left
  · replace c:=cf h c;have b:=b.tr (t:=17) j h;refine R q 28 b j fun a b=>E (T ?_);cases c;exact ⟨f,rf,b.kp j,(d.dropN 2 j)⟩
  replace c:=ct h c;have b:=b.tr (t:=17) j h
  refine R q 1 b j fun a b=>L d b j (B q 1 j j j j) j fun a b=>R q 1 b j fun a b=>L d b j (B q 0 j j j j) j fun a b=>R q 3 b j fun a b=>?_
  rcases Bo (decide (o.S=p.S)) with i | i;rotate_left
  · replace c:=cf i c;have b:=b.tr (t:=24) j i;refine R q 21 b j fun a b=>E (T ?_);cases c;exact ⟨f,rf,b.kp j,(d.dropN 2 j)⟩
  replace c:=ct i c;have b:=b.tr (t:=24) j i
  refine R q 1 b j fun a b=>L d b j (B q 1 j j j j) j fun a b=>R q 1 b j fun a b=>L d b j (B q 0 j j j j) j fun a b=>R q 3 b j fun a b=>?_
  rcases Bo (decide (o.T=p.T)) with l | l;rotate_left
  · replace c:=cf l c;have b:=b.tr (t:=31) j l;refine R q 14 b j fun a b=>E (T ?_);cases c;exact ⟨f,rf,b.kp j,(d.dropN 2 j)⟩
  replace c:=ct l c;have b:=b.tr (t:=31) j l
  refine R q 1 b j fun a b=>L d b j (B q 1 j j j j) j fun a b=>R q 1 b j fun a b=>L d b j (B q 0 j j j j) j fun a b=>?_
  obtain ⟨ak,ag,c⟩:=bd c;refine J cl_20 d b j j (hs_ref06_SameExprs ag d.pass0 aa y) j ?_;rintro a w _ u _ ⟨rfl,rfl⟩ n d b;refine R q 2 b j fun a b=>?_
  rcases Bo ak with m | m;rotate_left
  · replace c:=cf m c;have b:=b.tr (t:=38) j m;refine R q 7 b j fun a b=>E (T ?_);cases c;exact ⟨u,n,b.kp j,(d.dropN 2 j)⟩
  replace c:=ct m c;have b:=b.tr (t:=38) j m
  refine R q 1 b j fun a b=>L d b j (B q 1 j j j j) j fun a b=>R q 1 b j fun a b=>L d b j (B q 0 j j j j) j fun a b=>?_
  obtain ⟨a0,ah,c⟩:=bd c;refine J cl_58 d b j j (hs_ref06_SameQueries ah d.pass0 (ab.m n) (z.m n)) j ?_;rintro a w _ x _ ⟨rfl,rfl⟩ af d b
  refine R q 2 b j fun a b=>E (T ?_);cases c;exact ⟨x,(n.t af),b.kp j,(d.dropN 2 j)⟩

theorem ref06_SameQueries.F_ok (k:Nat) (s_ref06_SameExprs:(List TExpr)→(List TExpr)→Option Bool) (s_ref06_SameExpr:TExpr→TExpr→Option Bool) (s_ref06_SameQueries:(List TQuery)→(List TQuery)→Option Bool) (s_ref06_SameQuery:TQuery→TQuery→Option Bool) (s_ref06_SameFroms:(List TFrom)→(List TFrom)→Option Bool) (hs_ref06_SameExprs:ref06_SameExprs.C s_ref06_SameExprs) (hs_ref06_SameExpr:ref06_SameExpr.C s_ref06_SameExpr) (hs_ref06_SameQueries:ref06_SameQueries.C s_ref06_SameQueries) (hs_ref06_SameQuery:ref06_SameQuery.C s_ref06_SameQuery) (hs_ref06_SameFroms:ref06_SameFroms.C s_ref06_SameFroms):ref06_SameQueries.C (ref06_SameQueries.F k s_ref06_SameExprs s_ref06_SameExpr s_ref06_SameQueries s_ref06_SameQuery s_ref06_SameFroms):=by
  intro y ad r d ag l b2 b6 b3 b7 f z bq
  unfold ref06_SameQueries.F at d
  refine Ci 27 Tryz.func58 j j j fun a c=>?_
  
  refine S (G (R q 1 c j fun a c=>E (T (S (S (G (R q 5 c j fun a c=>E (T (Cc (b:=!decide ((y.length:Int)=(ad.length:Int))) c j (fun u=>?_) (fun u=>?_))))))))))
  · replace d:=ct u d;refine S (G (R q 1 c j fun a c=>E (T (V (Xr ?_)))));cases d;refine N (v:=_) c j ⟨_,_,_,j,f.nil,j,j⟩
  replace d:=cf u d;refine K (T (S (S (G (R q 1 c j fun a c=>E (T ?_))))));obtain ⟨ac,i,aa⟩:=bd d
  refine X c f (fun e L a' w'=>∃ af p,ac = .go af∧l.le p∧Env a' 27 []∧Inv ag l [] p L w') ?_ ?_;rotate_left
  · rintro a w ⟨af,p,rfl,b8,c,f⟩;have d:=Lg aa;refine T (S (G (R q 1 c j fun a c=>E (T (V ?_)))));cases d
    refine N (v:=_) c j ⟨_,_,_,j,f.nil,j,j⟩
  
  refine O (Q c f (fun e L n' a' w'=>∃ i125 g ae m,n'=List.length g∧i125≤y.length∧y.drop i125=g∧forL (ref06_SameQueries.b0 k s_ref06_SameExprs s_ref06_SameExpr s_ref06_SameQueries s_ref06_SameQuery s_ref06_SameFroms ad) i125 g ae=some ac∧l.le m∧Env a' 27 (sl e [0,1] [(5,i_ (i125:Int))])∧Inv ag l [] m L w') _ ⟨0,_,_,l,j,Nat.zero_le _,j,i,rf,c.kp j,f⟩ ?_)
  rintro b9 a w ⟨i125,g,ae,m,rfl,bx,n,i,o,c,f⟩;rcases g with _ | ⟨cd,g⟩
  · obtain rfl:=Fn i;have x:=Do n bx;refine S (S (G (R q 4 c j fun a c=>E (T ?_))));have c:=c.tr (t:=14) j (decide_eq_false (by omega))
    refine Fa c j (Ex (Xe (Xe (Xh (T (⟨_,m,j,o,c.kp j,f⟩))))))
  obtain ⟨cc,d,i⟩:=Fs i;obtain ⟨bz,n,x⟩:=Dc n;unfold ref06_SameQueries.b0 at d;refine S (S (G (R q 4 c j fun a c=>E (T ?_))))
  have c:=c.tr (t:=14) j (decide_eq_true (by omega));refine Tr c j (K (T (S (O (S (Cd mixed (by kernel_rfl) f (Y q 2 c j fun a c=>?_)))))))
  obtain ⟨b4,ca,cs,bv,bt,br⟩:=Sa (z.m o) (Int.natCast_nonneg _) (natIdx bz)
  obtain ⟨ah,ax,ai,ay,aj,az,ak,a0,al,a1,am,a2,an,a3,rfl,bb,bc,be,bf,bg,bh,bi⟩:=TQuery.inv.1 bt
  refine Z c j (I q bv j j j) j fun a c=>Z c j (Fg q br 0 j j j j) j fun a c=>Y q 2 c j fun a c=>?_;obtain ⟨ce,ab,d⟩:=bd d
  obtain ⟨b5,cb,cs,bw,bu,bs⟩:=Sa (bq.m o) (Go ab).1 (Go ab).2
  obtain ⟨ao,a4,ap,a5,aq,a6,ar,a7,au,a8,av,a9,aw,ba,rfl,bj,bk,bl,bm,bn,bo,bp⟩:=TQuery.inv.1 bu
  refine Z c j (I q bw j j j) j fun a c=>Z c j (Fg q bs 0 j j j j) j fun a c=>?_;obtain ⟨b1,b0,d⟩:=bd d
  refine Qc cl_75 c j j (fun w f=>hs_ref06_SameQuery b0 f.pass0 (TQuery.inv.2 ⟨ah,ax,ai,ay,aj,az,ak,a0,al,a1,am,a2,an,a3,j,bb,bc,be,bf,bg,bh,bi⟩) (TQuery.inv.2 ⟨ao,a4,ap,a5,aq,a6,ar,a7,au,a8,av,a9,aw,ba,j,bj,bk,bl,bm,bn,bo,bp⟩)) (fun _ _ _ h=>h.2) j fun a c=>Y q 1 c j fun a c=>Qe ?_
  intro w f;refine T (Cc (b:=!b1) c j (fun s=>?_) (fun s=>?_));rotate_left
  · replace d:=cf s d;refine K (xB (T (G (R q 3 c j fun a c=>E (T ?_)))));cases d;have c:=c.setI (t:=5) j (Wc x (Ln z))
    exact ⟨g.length,Nat.lt_succ_self _,i125 + 1,g,_,m,j,x,n,i,o,c.kp j,f⟩
  replace d:=ct s d;refine S (G (R q 1 c j fun a c=>E (T (V (Xb (Xr (Xr (Xb (Xr (Xr ?_))))))))));cases d;obtain rfl:=Nr i;have d:=Le aa;cases d
  refine N (v:=_) c j ⟨_,_,_,j,f.nil,j,j⟩
end Go.Proofs.YtliaopbgkcdibaaGreat
