/- The contracts: what the machine does at a call is what the plain function says. Written by mk.py. -/
import Derived.Test.YtknhbphhdfknaaaGreatDoorCgB3
import Derived.Test.YtknhbphhdfknaaaGreatDoorCgB6
import Derived.Test.YtknhbphhdfknaaaGreatDoorCgB10
set_option linter.unusedVariables false
set_option linter.unusedSimpArgs false
set_option maxRecDepth 100000
namespace Go.Proofs.YtknhbphhdfknaaaGreatDoor
open Go.RowKit
theorem lattice_Lattice_Bottom.ok (k:Nat):lattice_Lattice_Bottom.C (lattice_Lattice_Bottom k):=by
  intro a5 r d ag aa ax f ab
  unfold lattice_Lattice_Bottom at d
  refine Ci 26 Tryz.func101 j j j fun a c=>?_
  refine S (G (R q 1 c j fun a c=>E (T (S (S (G (R q 1 c j fun a c=>?_)))))));obtain ⟨aw,av,d⟩:=bd d
  refine J cl_61 f c j j ((lattice_Lattice_is.ok k) av f.pass0 ab) j ?_;rintro a w _ p _ ⟨rfl,rfl⟩ ar f c
  refine R q 1 c j fun a c=>E (T (Cc (b:=!aw) c j (fun s=>?_) (fun s=>?_)))
  · replace d:=ct s d;refine S (G (R q 1 c j fun a c=>E (T (V (Xr ?_)))));cases d;refine N (v:=_) c j ⟨_,_,_,j,f.nil,j,j⟩
  replace d:=cf s d;refine K (T (S (G (R q 1 c j fun a c=>E (T (S (S (G (R q 1 c j fun a c=>?_)))))))))
  rcases ((ab.m ar)).cases with ⟨y,rfl⟩ | ⟨h,ay,cs,y,rfl,aq,ac⟩
  · cases op_n y d
  replace d:=op_s y d;obtain ⟨ah,al,ai,aj,am,ak,an,rfl,ao,az,a0,a1⟩:=Tlattice_Lattice.inv.1 aq
  refine R q 2 c j fun a c=>L f c j (Fg q ac 0 j j j j) j fun a c=>R q 2 c j fun a c=>E (T ?_);obtain ⟨af,i,ap⟩:=bd d
  refine X c f (fun e L a' w'=>∃ z o,af = .go z∧p.le o∧Env a' 26 [(3,i_ z)]∧Inv ag aa [] o L w') ?_ ?_;rotate_left
  · rintro a w ⟨z,o,rfl,a2,c,f⟩;have d:=Lg ap;refine T (S (G (R q 2 c j fun a c=>E (T (V ?_)))));cases d;refine N (v:=_) c j ⟨_,_,_,j,f.nil,j,j⟩
  
  refine O (Q c f (fun e L n' a' w'=>∃ i58 g n l,n'=List.length g∧i58≤h.names_.length∧h.names_.drop i58=g∧forL (lattice_Lattice_Bottom.b0 k h) i58 g n=some af∧p.le l∧Env a' 26 (sl e [0,12] [(13,i_ (i58:Int)),(3,i_ n)])∧Inv ag aa [] l L w') _ ⟨0,_,_,p,j,Nat.zero_le _,j,i,rf,c.kp j,f⟩ ?_)
  rintro a4 a w ⟨i58,g,n,l,rfl,au,m,i,u,c,f⟩;rcases g with _ | ⟨a7,g⟩
  · obtain rfl:=Fn i;have x:=Do m au;refine S (G (R q 1 c j fun a c=>E (T (S ?_))));have c:=c.tr (t:=14) j (decide_eq_false (by omega))
    refine Fa c j (Ex (Xe (Xe (Xh (T (⟨_,l,j,u,c.kp j,f⟩))))))
  obtain ⟨a6,d,i⟩:=Fs i;obtain ⟨a3,m,x⟩:=Dc m;unfold lattice_Lattice_Bottom.b0 at d;refine S (G (R q 1 c j fun a c=>E (T (S ?_))))
  have c:=c.tr (t:=14) j (decide_eq_true (by omega));refine Tr c j (K (T (S (O (S (G (R q 2 c j fun a c=>E (T (G (R q 5 c j fun a c=>?_))))))))))
  obtain ⟨_,ad,d⟩:=bd d;refine L f c j (f_aidx q ua_158 j j j j ad) j fun a c=>?_;obtain ⟨_,ae,d⟩:=bd d
  refine L f c j (f_aidx q ua_157 j j j j ae) j fun a c=>L f c j (Fg (off:=260 + n.toNat * 16 + (i58:Int).toNat * 1) q (ac.m u) j (Nat.zero_add _).symm j (ar_ld2 (pre:=([.slice ah h.names_.length al,.map ai,.slice aj h.up_.length am,.slice ak h.down_.length an] ++ (arCells .i64 256 h.join_ ++ []))) j (by simp [arCells]) (ar_ij ad ae))) j fun a c=>R q 1 c j fun a c=>E (xB (T (G (R q 2 c j fun a c=>E (T ?_)))))
  cases d;have c:=c.setI (t:=13) j (Wc x (Ln ao));exact ⟨g.length,Nat.lt_succ_self _,i58 + 1,g,_,l,j,x,m,i,u,c.kp j,f⟩

theorem cl_106:Callable Tryz.prog 106:=⟨_,Tryz.func106,by kernel_rfl,by kernel_rfl⟩

def lattice_Lattice_Join.C (s:(Option Tlattice_Lattice)→Int→Int→Option Int):Prop:=∀ {e f g r},s e f g=some r→∀ {c b d},Inv c b [] b [] c→(Pt b d 160 Tlattice_Lattice.d e)→Calls Tryz.prog 106 #[.pointer d,i_ f,i_ g] c (Ret c b [] fun G' L' v=>L'=[]∧v=i_ r)

theorem lattice_Lattice_Join.ok (k:Nat):lattice_Lattice_Join.C (lattice_Lattice_Join k):=by
  intro a0 ao ap r d aq p au f i
  unfold lattice_Lattice_Join at d
  refine Ci 25 Tryz.func106 j j j fun a c=>?_
  refine S (G (R q 1 c j fun a c=>E (T (S (S ?_)))));obtain ⟨x,d,ai⟩:=bd d
  refine X c f (fun e L a' w'=>∃ h,p.le h∧Env a' 25 (sl e [0,1,2] [(16,.bool x)])∧Inv aq p [] h L w') ?_ ?_
  · refine G (R q 2 c j fun a c=>?_);obtain ⟨ar,am,d⟩:=bd d;refine J cl_61 f c j j ((lattice_Lattice_is.ok k) am f.pass0 i) j ?_;rintro a w _ ac _ ⟨rfl,rfl⟩ m f c
    refine R q 2 c j fun a c=>?_;rcases Bo (!ar) with g | g
    · replace d:=ct g d;have c:=c.tr (t:=11) j g;refine R q 5 c j fun a c=>E (T ?_);cases d;exact ⟨ac,m,c.kp j,f⟩
    replace d:=cf g d;have c:=c.tr (t:=11) j g;refine R q 2 c j fun a c=>?_;obtain ⟨a1,an,d⟩:=bd d
    refine J cl_61 f c j j ((lattice_Lattice_is.ok k) an f.pass0 (i.m m)) j ?_;rintro a w _ ad _ ⟨rfl,rfl⟩ al f c;refine R q 2 c j fun a c=>E (T ?_);cases d
    exact ⟨ad,(m.t al),c.kp j,f⟩
  rintro a w ⟨h,ak,c,f⟩;have d:=ai;refine T (Cc (b:=x) c j (fun l=>?_) (fun l=>?_))
  · replace d:=ct l d;refine S (G (R q 1 c j fun a c=>E (T (V (Xr ?_)))));cases d;refine N (v:=_) c j ⟨_,_,_,j,f.nil,j,j⟩
  replace d:=cf l d;refine K (T (S (G (R q 3 c j fun a c=>?_))));rcases ((i.m ak)).cases with ⟨n,rfl⟩ | ⟨o,av,cs,n,rfl,aj,ah⟩
  · cases op_n n d
  replace d:=op_s n d;obtain ⟨y,ae,z,aa,af,ab,ag,rfl,aw,ax,ay,az⟩:=Tlattice_Lattice.inv.1 aj;refine R q 2 c j fun a c=>?_;obtain ⟨_,s,d⟩:=bd d
  refine L f c j (f_aidx q ua_158 j j j j s) j fun a c=>?_;obtain ⟨_,u,d⟩:=bd d
  refine L f c j (f_aidx q ua_157 j j j j u) j fun a c=>L f c j (Fg (off:=4 + ao.toNat * 16 + ap.toNat * 1) q ah j (Nat.zero_add _).symm j (ar_ld2 (pre:=[.slice y o.names_.length ae,.map z,.slice aa o.up_.length af,.slice ab o.down_.length ag]) j (by simp [arCells]) (ar_ij s u))) j fun a c=>R q 1 c j fun a c=>E (T (V ?_))
  cases d;refine N (v:=_) c j ⟨_,_,_,j,f.nil,j,j⟩

theorem cl_55:Callable Tryz.prog 55:=⟨_,Tryz.func55,by kernel_rfl,by kernel_rfl⟩

def labels_marker_together.C (s:(Option Tlabels_marker)→(List Int)→Option Int):Prop:=∀ {h d r},s h d=some r→∀ {c b e f g},Inv c b [] b [] c→(Pt b e 147 Tlabels_marker.d h)→(Sl b f g 1 (d.map di))→Calls Tryz.prog 55 #[.pointer e,.slice f d.length g] c (Ret c b [] fun G' L' v=>L'=[]∧v=i_ r)

theorem labels_marker_together.ok (k:Nat):labels_marker_together.C (labels_marker_together k):=by
  intro a9 ad r d ae y au ay a3 c ag aa
  unfold labels_marker_together at d
  refine Ci 28 Tryz.func55 j j j fun a b=>?_
  refine S (G (R q 1 b j fun a b=>E (T (S (G (R q 1 b j fun a b=>?_))))));rcases (ag).cases with ⟨s,rfl⟩ | ⟨ar,a0,cs,s,rfl,aj,ab⟩
  · cases op_n s d
  replace d:=op_s s d;obtain ⟨av,aw,a1,ax,a2,rfl,z,a4,a5⟩:=Tlabels_marker.inv.1 aj;refine R q 2 b j fun a b=>L c b j (Fg q ab 0 j j j j) j fun a b=>?_
  obtain ⟨bc,ap,d⟩:=bd d;refine J cl_101 c b j j ((lattice_Lattice_Bottom.ok k) ap c.pass0 z) j ?_;rintro a w _ m _ ⟨rfl,rfl⟩ o c b
  refine R q 1 b j fun a b=>E (T (S (S (G (R q 3 b j fun a b=>E (T ?_))))));obtain ⟨ac,g,ai⟩:=bd d
  refine X b c (fun e L a' w'=>∃ x n,ac = .go x∧m.le n∧Env a' 28 [(5,i_ x)]∧Inv ae y [] n L w') ?_ ?_;rotate_left
  · rintro a w ⟨x,n,rfl,a6,b,c⟩;have d:=Lg ai;refine T (S (G (R q 2 b j fun a b=>E (T (V ?_)))));cases d;refine N (v:=_) b j ⟨_,_,_,j,c.nil,j,j⟩
  
  refine O (Q b c (fun e L n' a' w'=>∃ i70 f u i,n'=List.length f∧i70≤ad.length∧ad.drop i70=f∧forL (labels_marker_together.b0 k ar) i70 f u=some ac∧m.le i∧Env a' 28 (sl e [0,13,14] [(15,i_ (i70:Int)),(5,i_ u)])∧Inv ae y [] i L w') _ ⟨0,_,_,m,j,Nat.zero_le _,j,g,rf,b.kp j,c⟩ ?_)
  rintro a7 a w ⟨i70,f,u,i,rfl,an,l,g,h,b,c⟩;rcases f with _ | ⟨bb,f⟩
  · obtain rfl:=Fn g;have p:=Do l an;refine S (G (R q 1 b j fun a b=>E (T (S ?_))));have b:=b.tr (t:=16) j (decide_eq_false (by omega))
    refine Fa b j (Ex (Xe (Xe (Xh (T (⟨_,i,j,h,b.kp j,c⟩))))))
  obtain ⟨ba,d,g⟩:=Fs g;obtain ⟨ao,l,p⟩:=Dc l;unfold labels_marker_together.b0 at d;refine S (G (R q 1 b j fun a b=>E (T (S ?_))))
  have b:=b.tr (t:=16) j (decide_eq_true (by omega));refine Tr b j (K (T (S (O (S (G ?_))))))
  obtain ⟨az,a8,cs,al,ak,ah⟩:=Sa (aa.m (o.t h)) (Int.natCast_nonneg _) (natIdx ao);obtain rfl:=rep_int.1 ak
  refine L c b j (I q al j j j) j fun a b=>L c b j (Fg q ah 0 j j j j) j fun a b=>R q 1 b j fun a b=>E (T (G (R q 3 b j fun a b=>L c b j (Fg q (ab.m (o.t h)) 0 j j j j) j fun a b=>R q 2 b j fun a b=>?_)))
  obtain ⟨be,aq,d⟩:=bd d;refine J cl_106 c b j j ((lattice_Lattice_Join.ok k) aq c.pass0 (z.m (o.t h))) j ?_;rintro a w _ af _ ⟨rfl,rfl⟩ am c b
  refine R q 1 b j fun a b=>E (xB (T (G (R q 2 b j fun a b=>E (T ?_)))));cases d;have b:=b.setI (t:=15) j (Wc p (Ln aa))
  exact ⟨f.length,Nat.lt_succ_self _,i70 + 1,f,_,af,j,p,l,g,(h.t am),b.kp j,c⟩

theorem cl_27:Callable Tryz.prog 27:=⟨_,Tryz.func27,by kernel_rfl,by kernel_rfl⟩

def labels_marker_exists.C (s:(Option Tlabels_marker)→Int→Option Int):Prop:=∀ {e f r},s e f=some r→∀ {c b d},Inv c b [] b [] c→(Pt b d 147 Tlabels_marker.d e)→Calls Tryz.prog 27 #[.pointer d,i_ f] c (Ret c b [] fun G' L' v=>L'=[]∧v=i_ r)

theorem labels_marker_exists.ok (k:Nat):labels_marker_exists.C (labels_marker_exists k):=by
  intro b9 ca r e cb o ak d n
  unfold labels_marker_exists at e
  refine Ci 41 Tryz.func27 j j j fun a c=>?_
  refine S (G (R q 1 c j fun a c=>E (T (S (S (G (R q 1 c j fun a c=>?_)))))));rcases (n).cases with ⟨m,rfl⟩ | ⟨cd,a9,cs,m,rfl,z,i⟩
  · cases op_n m e
  replace e:=op_s m e;obtain ⟨ar,au,bh,av,bi,rfl,bv,h,bw⟩:=Tlabels_marker.inv.1 z
  refine R q 2 c j fun a c=>L d c j (Fg q i 1 j j j j) j fun a c=>R q 1 c j fun a c=>?_;obtain ⟨g,f,e⟩:=bd e
  obtain ⟨a7,b7,cs,ag,ac,u⟩:=Sa h (Go f).1 (Go f).2;obtain ⟨aw,bj,ax,bk,ay,bl,rfl,bx,bz,b0⟩:=TRelation.inv.1 ac
  refine L d c j (I q ag j j j) j fun a c=>R q 1 c j fun a c=>L d c j (Fg q u 4 j j j j) j fun a c=>R q 1 c j fun a c=>E (T (Cc (b:=decide (g.Hide < (0:Int))) c j (fun l=>?_) (fun l=>?_)))
  · replace e:=ct l e;refine S (G (R q 3 c j fun a c=>L d c j (Fg q i 1 j j j j) j fun a c=>R q 1 c j fun a c=>?_))
    obtain ⟨a8,b8,cs,ah,ad,x⟩:=Sa h (Go f).1 (Go f).2;obtain ⟨az,bm,a0,bn,a1,bo,rfl,b1,b2,b3⟩:=TRelation.inv.1 ad
    refine L d c j (I q ah j j j) j fun a c=>R q 1 c j fun a c=>L d c j (Fg q x 1 j j j j) j fun a c=>R q 1 c j fun a c=>E (T (V (Xr ?_)))
    cases e;refine N (v:=_) c j ⟨_,_,_,j,d.nil,j,j⟩
  replace e:=cf l e
  refine K (T (S (Mx [] [17,18] (.step 0 0 (.step 1 0 (.step 2 0 (.step 3 0 (.step 4 1 (.step 5 0 (.step 6 0 (.step 7 0 (.step 8 1 (.step 9 0 (.step 10 0 (.step 11 0 (.step 12 1 (.step 13 0 (.step 14 0 (.step 15 0 (.step 16 1 (.step 17 3 (.step 18 3 (.step 19 0 .nil)))))))))))))))))))) mixed (mixF_all (by kernel_rfl)) d (by decide) j fun w d hS=>H q 4 c j fun a c=>Dd hS c j j (Rw fun _=>(Fg q i 1 j j j j)) j fun a c=>H q 1 c j fun a c=>?_)))
  obtain ⟨a4,b5,cs,ae,y,s⟩:=Sa h (Go f).1 (Go f).2;obtain ⟨al,ba,am,bb,an,bc,rfl,bp,bq,br⟩:=TRelation.inv.1 y
  refine Dr c j j (I q ae j j j) j fun a c=>H q 1 c j fun a c=>Dd hS c j j (Rw fun _=>(Fg q s 1 j j j j)) j fun a c=>H q 3 c j fun a c=>Dd hS c j j (Rw fun _=>(Fg q i 1 j j j j)) j fun a c=>H q 1 c j fun a c=>?_
  obtain ⟨a5,b6,cs,af,aa,t⟩:=Sa h (Go f).1 (Go f).2;obtain ⟨ao,be,ap,bf,aq,bg,rfl,bs,bt,bu⟩:=TRelation.inv.1 aa
  refine Dr c j j (I q af j j j) j fun a c=>H q 1 c j fun a c=>Dd hS c j j (Rw fun _=>(Fg q t 4 j j j j)) j fun a c=>Dl j (Bs ai_40 d c j j j j j fun a w a6 c d=>?_)
  have ab:RL o 1 ([g.Rows,g.Hide].map di) _:=(Rc (rep_int.2 j) j (Rc (rep_int.2 j) j Rn));refine Dn (Dl j ?_)
  obtain ⟨a2,ai,d,p⟩:=(d.front 0).giveR (xs:=([g.Rows,g.Hide]).map di) (by simp) ab;obtain ⟨cc,aj,e⟩:=bd e
  refine J cl_55 d c j j ((labels_marker_together.ok k) aj d.pass0 (n.m ai) p) j ?_;rintro a w _ a3 _ ⟨rfl,rfl⟩ b4 d c
  refine Dn (H q 1 c j fun a c=>Dz (T (V ?_)));cases e;refine N (v:=_) c j ⟨_,_,_,j,d.nil,j,j⟩

theorem cl_7:Callable Tryz.prog 7:=⟨_,Tryz.func7,by kernel_rfl,by kernel_rfl⟩

def labels_Exists.C (s:(Option Tschema_Catalog)→Int→Option Int):Prop:=∀ {e f r},s e f=some r→∀ {c b d},Inv c b [] b [] c→(Pt b d 111 Tschema_Catalog.d e)→Calls Tryz.prog 7 #[.pointer d,i_ f] c (Ret c b [] fun G' L' v=>L'=[]∧v=i_ r)

theorem labels_Exists.ok (k:Nat):labels_Exists.C (labels_Exists k):=by
  intro am ab r d ac h ad f m
  unfold labels_Exists at d
  refine Ci 18 Tryz.func7 j j j fun a c=>?_
  refine S (G (R q 1 c j fun a c=>E (T (S (S ?_)))));obtain ⟨n,d,s⟩:=bd d
  refine X c f (fun e L a' w'=>∃ i,h.le i∧Env a' 18 (sl e [0,1] [(13,.bool n)])∧Inv ac h [] i L w') ?_ ?_
  · refine G (R q 3 c j fun a c=>?_);rcases Bo (decide (ab < (0:Int))) with g | g
    · replace d:=ct g d;have c:=c.tr (t:=7) j g;refine R q 6 c j fun a c=>E (T ?_);cases d;exact ⟨h,rf,c.kp j,f⟩
    replace d:=cf g d;have c:=c.tr (t:=7) j g;refine R q 2 c j fun a c=>?_;obtain ⟨ap,aa,d⟩:=bd d
    refine J cl_25 f c j j ((schema_Catalog_Tables.ok k) aa f.pass0 m) j ?_;rintro a w _ o _ ⟨rfl,af,ai,rfl,aj⟩ x f c;refine R q 3 c j fun a c=>E (T ?_);cases d
    exact ⟨o,x,c.kp j,f⟩
  rintro a w ⟨i,u,c,f⟩;have d:=s;refine T (Cc (b:=n) c j (fun l=>?_) (fun l=>?_))
  · replace d:=ct l d;refine S (G (R q 1 c j fun a c=>E (T (V (Xr ?_)))));cases d;refine N (v:=_) c j ⟨_,_,_,j,f.nil,j,j⟩
  replace d:=cf l d;refine K (T (S (G (R q 1 c j fun a c=>?_))));obtain ⟨an,y,d⟩:=bd d
  refine J cl_26 f c j j ((labels_of.ok k) y f.pass0 (m.m u) (Sn _ _ _ _ (Nat.zero_le _))) j ?_;rintro a w _ ag _ ⟨rfl,ae,rfl,p⟩ ak f c;refine R q 1 c j fun a c=>?_
  obtain ⟨ao,z,d⟩:=bd d;refine J cl_27 f c j j ((labels_marker_exists.ok k) z f.pass0 p) j ?_;rintro a w _ ah _ ⟨rfl,rfl⟩ al f c
  refine R q 1 c j fun a c=>E (T (V ?_));cases d;refine N (v:=_) c j ⟨_,_,_,j,f.nil,j,j⟩

theorem cl_8:Callable Tryz.prog 8:=⟨_,Tryz.func8,by kernel_rfl,by kernel_rfl⟩

def ref17_Exists.C (s:(Option Tref08_Catalog)→Int→Option Int):Prop:=∀ {e f r},s e f=some r→∀ {c b d},Inv c b [] b [] c→(Pt b d 36 Tref08_Catalog.d e)→Calls Tryz.prog 8 #[.pointer d,i_ f] c (Ret c b [] fun G' L' v=>L'=[]∧v=i_ r)

theorem ref17_Exists.ok (k:Nat):ref17_Exists.C (ref17_Exists k):=by
  intro b6 b7 r d b8 a1 ai e o
  unfold ref17_Exists at d
  refine Ci 43 Tryz.func8 j j j fun a c=>?_
  refine S (G (R q 1 c j fun a c=>E (T (S (S (G (R q 1 c j fun a c=>?_)))))));rcases (o).cases with ⟨m,rfl⟩ | ⟨b9,a6,cs,m,rfl,x,g⟩
  · cases op_n m d
  replace d:=op_s m d;obtain ⟨aj,ak,a7,al,a8,am,a9,rfl,n,i,bn,bo⟩:=Tref08_Catalog.inv.1 x
  refine R q 2 c j fun a c=>L e c j (Fg q g 1 j j j j) j fun a c=>R q 1 c j fun a c=>?_;obtain ⟨ah,f,d⟩:=bd d
  obtain ⟨a2,b2,cs,ac,y,p⟩:=Sa i (Go f).1 (Go f).2;obtain ⟨an,ba,ao,bb,ap,bc,rfl,bp,bq,br⟩:=TRelation.inv.1 y
  refine L e c j (I q ac j j j) j fun a c=>R q 1 c j fun a c=>L e c j (Fg q p 4 j j j j) j fun a c=>R q 1 c j fun a c=>E (T (Cc (b:=decide (ah.Hide < (0:Int))) c j (fun l=>?_) (fun l=>?_)))
  · replace d:=ct l d;refine S (G (R q 3 c j fun a c=>L e c j (Fg q g 1 j j j j) j fun a c=>R q 1 c j fun a c=>?_))
    obtain ⟨a3,b3,cs,ad,z,s⟩:=Sa i (Go f).1 (Go f).2;obtain ⟨aq,be,ar,bf,au,bg,rfl,bs,bt,bu⟩:=TRelation.inv.1 z
    refine L e c j (I q ad j j j) j fun a c=>R q 1 c j fun a c=>L e c j (Fg q s 1 j j j j) j fun a c=>R q 1 c j fun a c=>E (T (V (Xr ?_)))
    cases d;refine N (v:=_) c j ⟨_,_,_,j,e.nil,j,j⟩
  replace d:=cf l d
  refine K (T (S (Cd mixed (by kernel_rfl) e (Y q 3 c j fun a c=>Z c j (Fg q g 0 j j j j) j fun a c=>Y q 3 c j fun a c=>Z c j (Fg q g 1 j j j j) j fun a c=>Y q 1 c j fun a c=>?_))))
  obtain ⟨a4,b4,cs,ae,aa,t⟩:=Sa i (Go f).1 (Go f).2;obtain ⟨av,bh,aw,bi,ax,bj,rfl,bv,bw,bx⟩:=TRelation.inv.1 aa
  refine Z c j (I q ae j j j) j fun a c=>Y q 1 c j fun a c=>Z c j (Fg q t 1 j j j j) j fun a c=>Y q 3 c j fun a c=>Z c j (Fg q g 1 j j j j) j fun a c=>Y q 1 c j fun a c=>?_
  obtain ⟨a5,b5,cs,af,ab,u⟩:=Sa i (Go f).1 (Go f).2;obtain ⟨ay,bk,az,bl,a0,bm,rfl,bz,b0,b1⟩:=TRelation.inv.1 ab
  refine Z c j (I q af j j j) j fun a c=>Y q 1 c j fun a c=>Z c j (Fg q u 4 j j j j) j fun a c=>?_;obtain ⟨ca,ag,d⟩:=bd d
  refine Qc cl_28 c j j (fun w e=>(ref03_Lattice_Join.ok k) ag e.pass0 n) (fun _ _ _ h=>h.2) j fun a c=>Y q 1 c j fun a c=>Qe ?_;intro w e;refine T (V ?_);cases d
  refine N (v:=_) c j ⟨_,_,_,j,e.nil,j,j⟩

theorem cl_29:Callable Tryz.prog 29:=⟨_,Tryz.func29,by kernel_rfl,by kernel_rfl⟩

def labels_marker_column.C (s:(Option Tlabels_marker)→Int→Int→Option Int):Prop:=∀ {e f g r},s e f g=some r→∀ {c b d},Inv c b [] b [] c→(Pt b d 147 Tlabels_marker.d e)→Calls Tryz.prog 29 #[.pointer d,i_ f,i_ g] c (Ret c b [] fun G' L' v=>L'=[]∧v=i_ r)

theorem labels_marker_column.ok (k:Nat):labels_marker_column.C (labels_marker_column k):=by
  intro bl bm bn r c bo o ai d g
  unfold labels_marker_column at c
  refine Ci 30 Tryz.func29 j j j fun a b=>?_
  refine S (G (R q 1 b j fun a b=>E (T (S ?_))));rcases (g).cases with ⟨f,rfl⟩ | ⟨bq,ay,cs,f,rfl,aa,i⟩
  · cases op_n f c
  replace c:=op_s f c;obtain ⟨al,am,a3,an,a4,rfl,bb,h,bc⟩:=Tlabels_marker.inv.1 aa
  refine Mx [] [21,22] (.step 0 0 (.step 1 0 (.step 2 0 (.step 3 0 (.step 4 1 (.step 5 0 (.step 6 0 (.step 7 0 (.step 8 1 (.step 9 0 (.step 10 0 (.step 11 0 (.step 12 1 (.step 13 0 (.step 14 0 (.step 15 0 (.step 16 1 (.step 17 0 (.step 18 0 (.step 19 0 (.step 20 1 (.step 21 3 (.step 22 3 (.step 23 0 .nil)))))))))))))))))))))))) mixed (mixF_all (by kernel_rfl)) d (by decide) j fun w d hS=>H q 4 b j fun a b=>Dd hS b j j (Rw fun _=>(Fg q i 1 j j j j)) j fun a b=>H q 1 b j fun a b=>?_
  obtain ⟨n,e,c⟩:=bd c;obtain ⟨az,bj,cs,af,ab,u⟩:=Sa h (Go e).1 (Go e).2;obtain ⟨ao,a5,ap,a6,aq,a7,rfl,be,bf,bg⟩:=TRelation.inv.1 ab
  refine Dr b j j (I q af j j j) j fun a b=>H q 1 b j fun a b=>Dd hS b j j (Rw fun _=>(Fg q u 1 j j j j)) j fun a b=>H q 3 b j fun a b=>Dd hS b j j (Rw fun _=>(Fg q i 1 j j j j)) j fun a b=>H q 1 b j fun a b=>?_
  obtain ⟨a0,bk,cs,ad,ac,x⟩:=Sa h (Go e).1 (Go e).2;obtain ⟨ar,a8,aj,a1,ak,a2,rfl,p,a9,ba⟩:=TRelation.inv.1 ac
  refine Dr b j j (I q ad j j j) j fun a b=>H q 1 b j fun a b=>Dd hS b j j (Rw fun _=>(Fg q x 2 j j j j)) j fun a b=>H q 1 b j fun a b=>?_
  obtain ⟨m,l,c⟩:=bd c;obtain ⟨aw,bi,cs,ae,y,t⟩:=Sa p (Go l).1 (Go l).2;obtain rfl:=TField.inv.1 y
  refine Dr b j j (I q ae j j j) j fun a b=>H q 1 b j fun a b=>Dd hS b j j (Rw fun _=>(Fg q t 3 j j j j)) j fun a b=>Dl j (Bs ai_40 d b j j j j j fun a w ax b d=>?_)
  have z:RL o 1 ([n.Rows,m.Level].map di) _:=(Rc (rep_int.2 j) j (Rc (rep_int.2 j) j Rn));refine Dn (Dl j ?_)
  obtain ⟨au,ag,d,s⟩:=(d.front 0).giveR (xs:=([n.Rows,m.Level]).map di) (by simp) z;obtain ⟨bp,ah,c⟩:=bd c
  refine J cl_55 d b j j ((labels_marker_together.ok k) ah d.pass0 (g.m ag) s) j ?_;rintro a w _ av _ ⟨rfl,rfl⟩ bh d b
  refine Dn (H q 1 b j fun a b=>Dz (T (V ?_)));cases c;refine N (v:=_) b j ⟨_,_,_,j,d.nil,j,j⟩

theorem cl_9:Callable Tryz.prog 9:=⟨_,Tryz.func9,by kernel_rfl,by kernel_rfl⟩

def labels_Column.C (s:(Option Tschema_Catalog)→Int→Int→Option Int):Prop:=∀ {e f g r},s e f g=some r→∀ {c b d},Inv c b [] b [] c→(Pt b d 111 Tschema_Catalog.d e)→Calls Tryz.prog 9 #[.pointer d,i_ f,i_ g] c (Ret c b [] fun G' L' v=>L'=[]∧v=i_ r)

theorem labels_Column.ok (k:Nat):labels_Column.C (labels_Column k):=by
  intro a7 u aj r d ak x am f o
  unfold labels_Column at d
  refine Ci 37 Tryz.func9 j j j fun a c=>?_
  refine S (G (R q 1 c j fun a c=>E (T (S (G (R q 1 c j fun a c=>?_))))));obtain ⟨al,ai,d⟩:=bd d
  refine J cl_25 f c j j ((schema_Catalog_Tables.ok k) ai f.pass0 o) j ?_;rintro a w _ g _ ⟨rfl,an,ax,rfl,y⟩ af f c;refine R q 1 c j fun a c=>E (T (S (S ?_)))
  obtain ⟨s,d,ab⟩:=bd d;refine X c f (fun e L a' w'=>∃ m,g.le m∧Env a' 37 (sl e [0,1,2] [(31,.bool s)])∧Inv ak x [] m L w') ?_ ?_;rotate_left
  · rintro a w ⟨m,ae,c,f⟩;have d:=ab;refine T (Cc (b:=s) c j (fun n=>?_) (fun n=>?_))
    · replace d:=ct n d;refine S (G (R q 1 c j fun a c=>E (T (V (Xr ?_)))));cases d;refine N (v:=_) c j ⟨_,_,_,j,f.nil,j,j⟩
    replace d:=cf n d;refine K (T (S (G (R q 1 c j fun a c=>?_))));obtain ⟨a8,ag,d⟩:=bd d
    refine J cl_26 f c j j ((labels_of.ok k) ag f.pass0 (o.m (af.t ae)) (Sn _ _ _ _ (Nat.zero_le _))) j ?_;rintro a w _ au _ ⟨rfl,ao,rfl,z⟩ a4 f c
    refine R q 2 c j fun a c=>?_;obtain ⟨a9,ah,d⟩:=bd d;refine J cl_29 f c j j ((labels_marker_column.ok k) ah f.pass0 z) j ?_;rintro a w _ av _ ⟨rfl,rfl⟩ a5 f c
    refine R q 1 c j fun a c=>E (T (V ?_));cases d;refine N (v:=_) c j ⟨_,_,_,j,f.nil,j,j⟩
  refine G (R q 3 c j fun a c=>?_);rcases Bo (decide (u < (0:Int))) with h | h
  · replace d:=ct h d;have c:=c.tr (t:=12) j h;refine R q 19 c j fun a c=>E (T ?_);cases d;exact ⟨g,rf,c.kp j,f⟩
  replace d:=cf h d;have c:=c.tr (t:=12) j h;refine R q 6 c j fun a c=>?_;rcases Bo (decide ((al.length:Int)≤u)) with i | i
  · replace d:=ct i d;have c:=c.tr (t:=18) j i;refine R q 13 c j fun a c=>E (T ?_);cases d;exact ⟨g,rf,c.kp j,f⟩
  replace d:=cf i d;have c:=c.tr (t:=18) j i;refine R q 4 c j fun a c=>?_;rcases Bo (decide (aj < (0:Int))) with l | l
  · replace d:=ct l d;have c:=c.tr (t:=22) j l;refine R q 9 c j fun a c=>E (T ?_);cases d;exact ⟨g,rf,c.kp j,f⟩
  replace d:=cf l d;have c:=c.tr (t:=22) j l;refine R q 3 c j fun a c=>?_;obtain ⟨ba,p,d⟩:=bd d
  obtain ⟨aw,a6,cs,ad,ac,aa⟩:=Sa y (Go p).1 (Go p).2;obtain ⟨ap,ay,aq,az,ar,a0,rfl,a1,a2,a3⟩:=TRelation.inv.1 ac
  refine L f c j (I q ad j j j) j fun a c=>R q 1 c j fun a c=>L f c j (Fg q aa 2 j j j j) j fun a c=>R q 3 c j fun a c=>E (T ?_)
  cases d;exact ⟨g,rf,c.kp j,f⟩

theorem cl_10:Callable Tryz.prog 10:=⟨_,Tryz.func10,by kernel_rfl,by kernel_rfl⟩

def ref17_Column.C (s:(Option Tref08_Catalog)→Int→Int→Option Int):Prop:=∀ {e f g r},s e f g=some r→∀ {c b d},Inv c b [] b [] c→(Pt b d 36 Tref08_Catalog.d e)→Calls Tryz.prog 10 #[.pointer d,i_ f,i_ g] c (Ret c b [] fun G' L' v=>L'=[]∧v=i_ r)

theorem ref17_Column.ok (k:Nat):ref17_Column.C (ref17_Column k):=by
  intro bg bh bi r c bj ap ae d m
  unfold ref17_Column at c
  refine Ci 32 Tryz.func10 j j j fun a b=>?_
  refine S (G (R q 1 b j fun a b=>E (T (S (Cd mixed (by kernel_rfl) d (Y q 1 b j fun a b=>?_))))));rcases (m).cases with ⟨g,rfl⟩ | ⟨bk,aq,cs,g,rfl,u,f⟩
  · cases op_n g c
  replace c:=op_s g c;obtain ⟨af,ag,aw,ah,ax,ai,ay,rfl,n,i,a5,a6⟩:=Tref08_Catalog.inv.1 u
  refine Y q 2 b j fun a b=>Z b j (Fg q f 0 j j j j) j fun a b=>Y q 3 b j fun a b=>Z b j (Fg q f 1 j j j j) j fun a b=>Y q 1 b j fun a b=>?_
  obtain ⟨bl,e,c⟩:=bd c;obtain ⟨ar,bc,cs,aa,x,p⟩:=Sa i (Go e).1 (Go e).2;obtain ⟨aj,az,ak,a0,al,a1,rfl,a7,a8,a9⟩:=TRelation.inv.1 x
  refine Z b j (I q aa j j j) j fun a b=>Y q 1 b j fun a b=>Z b j (Fg q p 1 j j j j) j fun a b=>Y q 3 b j fun a b=>Z b j (Fg q f 1 j j j j) j fun a b=>Y q 1 b j fun a b=>?_
  obtain ⟨au,be,cs,ab,y,s⟩:=Sa i (Go e).1 (Go e).2;obtain ⟨am,a2,an,a3,ao,a4,rfl,o,ba,bb⟩:=TRelation.inv.1 y
  refine Z b j (I q ab j j j) j fun a b=>Y q 1 b j fun a b=>Z b j (Fg q s 2 j j j j) j fun a b=>Y q 1 b j fun a b=>?_
  obtain ⟨bm,l,c⟩:=bd c;obtain ⟨av,bf,cs,ac,z,t⟩:=Sa o (Go l).1 (Go l).2;obtain rfl:=TField.inv.1 z
  refine Z b j (I q ac j j j) j fun a b=>Y q 1 b j fun a b=>Z b j (Fg q t 3 j j j j) j fun a b=>?_;obtain ⟨bn,ad,c⟩:=bd c
  refine Qc cl_28 b j j (fun w d=>(ref03_Lattice_Join.ok k) ad d.pass0 n) (fun _ _ _ h=>h.2) j fun a b=>Y q 1 b j fun a b=>Qe ?_;intro w d;refine T (V ?_);cases c
  refine N (v:=_) b j ⟨_,_,_,j,d.nil,j,j⟩

theorem cl_3:Callable Tryz.prog 3:=⟨_,Tryz.func3,by kernel_rfl,by kernel_rfl⟩

def law17_LabelsTables.C (s:TSchema→Int→Int→Option Bool):Prop:=∀ {e f g r},s e f g=some r→∀ {c b d},Inv c b [] b [] c→(Rep b e.d d)→Calls Tryz.prog 3 #[.agg ⟨d⟩,i_ f,i_ g] c (Ret c b [] fun G' L' v=>L'=[]∧v = .bool r)

theorem law17_LabelsTables.ok (k:Nat):law17_LabelsTables.C (law17_LabelsTables k):=by
  intro ey dd de r d n g eg f cd
  unfold law17_LabelsTables at d
  obtain ⟨bn,b2,bq,b3,br,b4,bo,b0,bp,b1,rfl,b7,b9,ca,b5,b6⟩:=TSchema.inv.1 cd
  refine Ci 109 Tryz.func3 j j j fun a c=>?_
  refine S (G (s_box f c j j j j fun a w d3 c f=>R q 1 c j fun a c=>E (T (S (G (L f c j (B q 0 j j j j) j fun a c=>?_))))))
  obtain ⟨a6,c9,d⟩:=bd d;refine J cl_5 f c j j ((law09_Both.ok k) c9 f.pass0 (TSchema.inv.2 ⟨bn,b2,bq,b3,br,b4,bo,b0,bp,b1,j,b7,b9,ca,b5,b6⟩)) j ?_
  rintro a w _ av _ ⟨rfl,du,dv,rfl,u,aw⟩ er f c
  refine R q 5 c j fun a c=>E (T (S (S (G (R q 1 c j fun a c=>L f c j (f_pnil up_27 u j j) j fun a c=>E (T (Cc (b:=a6.1.isNone) c j (fun a2=>?_) (fun a2=>?_))))))))
  · replace d:=ct a2 d;refine S (G ?_);obtain ⟨e6,da,d⟩:=bd d;refine J cl_6 f c j j ((law17_alive.ok kAlive) da f.pass0 ) j ?_;rintro a w _ d2 _ ⟨rfl,rfl⟩ es f c
    refine R q 1 c j fun a c=>E (T (V (Xr ?_)));cases d;refine N (v:=_) c j ⟨_,_,_,j,f.nil,j,j⟩
  replace d:=cf a2 d;refine K (T (S (S (G (R q 1 c j fun a c=>?_)))));rcases (aw).cases with ⟨a5,rfl⟩ | ⟨bm,d6,cs,a5,rfl,cl,al⟩
  · cases op_n a5 d
  replace d:=op_s a5 d;obtain ⟨dw,dx,ed,dy,ee,dz,ef,rfl,em,ax,en,eo⟩:=Tref08_Catalog.inv.1 cl
  refine R q 2 c j fun a c=>L f c j (Fg q al 1 j j j j) j fun a c=>R q 2 c j fun a c=>E (T ?_);obtain ⟨bf,h,ay⟩:=bd d
  refine X c f (fun e L a' w'=>∃ bi s,bf = .go bi∧av.le s∧Env a' 109 (sl e [1,2,7,8] [])∧Inv n g [] s [] w') ?_ ?_;rotate_left
  · rintro a w ⟨bi,s,rfl,x,c,f⟩;have d:=Lg ay;refine T (S (S ?_));obtain ⟨bc,d,ce⟩:=bd d
    refine X c f (fun e L a' w'=>∃ o,s.le o∧Env a' 109 (sl e [1,2,7,8] [(68,.bool bc)])∧Inv n g [] o L w') ?_ ?_
    · refine G (R q 3 c j fun a c=>?_);rcases Bo (decide (dd < (0:Int))) with ae | ae
      · replace d:=ct ae d;have c:=c.tr (t:=60) j ae;refine R q 8 c j fun a c=>E (T ?_);cases d;exact ⟨s,rf,c.kp j,f⟩
      replace d:=cf ae d;have c:=c.tr (t:=60) j ae
      refine R q 4 c j fun a c=>L f c j (Fg q (al.m x) 1 j j j j) j fun a c=>R q 3 c j fun a c=>E (T ?_);cases d;exact ⟨s,rf,c.kp j,f⟩
    rintro a w ⟨o,af,c,f⟩;have d:=ce;refine T (Cc (b:=bc) c j (fun az=>?_) (fun az=>?_))
    · replace d:=ct az d;refine S ?_;obtain ⟨db,d,cg⟩:=bd d;refine X c f (fun e L a' w'=>∃ aq,o.le aq∧Env a' 109 [(6,.bool db)]∧Inv n g [] aq L w') ?_ ?_;rotate_left
      · rintro a w ⟨aq,ep,c,f⟩;have d:=cg;refine T (V (Xr ?_));cases d;refine N (v:=_) c j ⟨_,_,_,j,f.nil,j,j⟩
      refine G (R q 2 c j fun a c=>?_);obtain ⟨df,cz,d⟩:=bd d;refine J cl_7 f c j j ((labels_Exists.ok k) cz f.pass0 (u.m (x.t af))) j ?_
      rintro a w _ bs _ ⟨rfl,rfl⟩ ao f c;refine R q 2 c j fun a c=>?_;rcases Bo (decide (df=(-1:Int))) with z | z;rotate_left
      · replace d:=cf z d;have c:=c.tr (t:=73) j z;refine R q 10 c j fun a c=>E (T ?_);cases d;exact ⟨bs,ao,c.kp j,f⟩
      replace d:=ct z d;have c:=c.tr (t:=73) j z;refine R q 3 c j fun a c=>?_;obtain ⟨dg,c0,d⟩:=bd d
      refine J cl_9 f c j j ((labels_Column.ok k) c0 f.pass0 (u.m ((x.t af).t ao))) j ?_;rintro a w _ bt _ ⟨rfl,rfl⟩ a8 f c;refine R q 3 c j fun a c=>?_
      rcases Bo (decide (dg=(-1:Int))) with aa | aa;rotate_left
      · replace d:=cf aa d;have c:=c.tr (t:=80) j aa;refine R q 3 c j fun a c=>E (T ?_);cases d;exact ⟨bt,(ao.t a8),c.kp j,f⟩
      replace d:=ct aa d;have c:=c.tr (t:=80) j aa;obtain ⟨e2,c1,d⟩:=bd d;refine J cl_6 f c j j ((law17_alive.ok kAlive) c1 f.pass0 ) j ?_
      rintro a w _ bu _ ⟨rfl,rfl⟩ co f c;refine R q 2 c j fun a c=>E (T ?_);cases d;exact ⟨bu,((ao.t a8).t co),c.kp j,f⟩
    replace d:=cf az d;refine K (T (S ?_));obtain ⟨be,d,ch⟩:=bd d
    refine X c f (fun e L a' w'=>∃ ai,o.le ai∧Env a' 109 (sl e [1,2,7] [(11,.bool be)])∧Inv n g [] ai L w') ?_ ?_
    · refine G (R q 3 c j fun a c=>?_);rcases Bo (decide ((0:Int)≤de)) with ad | ad;rotate_left
      · replace d:=cf ad d;have c:=c.tr (t:=85) j ad;refine R q 13 c j fun a c=>E (T ?_);cases d;exact ⟨o,rf,c.kp j,f⟩
      replace d:=ct ad d;have c:=c.tr (t:=85) j ad
      refine R q 4 c j fun a c=>L f c j (Fg q (al.m (x.t af)) 1 j j j j) j fun a c=>R q 1 c j fun a c=>?_;obtain ⟨e5,bb,d⟩:=bd d
      obtain ⟨d4,ew,cs,cm,cj,cb⟩:=Sa (ax.m (x.t af)) (Go bb).1 (Go bb).2;obtain ⟨dn,d7,dp,d8,dq,d9,rfl,eh,ei,ej⟩:=TRelation.inv.1 cj
      refine L f c j (I q cm j j j) j fun a c=>R q 1 c j fun a c=>L f c j (Fg q cb 2 j j j j) j fun a c=>R q 4 c j fun a c=>E (T ?_)
      cases d;exact ⟨o,rf,c.kp j,f⟩
    rintro a w ⟨ai,cp,c,f⟩;have d:=ch;refine T (S ?_);obtain ⟨dc,d,ci⟩:=bd d
    refine X c f (fun e L a' w'=>∃ ar,ai.le ar∧Env a' 109 [(6,.bool dc)]∧Inv n g [] ar L w') ?_ ?_;rotate_left
    · rintro a w ⟨ar,eq,c,f⟩;have d:=ci;refine T (V ?_);cases d;refine N (v:=_) c j ⟨_,_,_,j,f.nil,j,j⟩
    refine G (R q 2 c j fun a c=>?_);rcases Bo be with ab | ab
    · replace d:=ct ab d;have c:=c.tr (t:=99) j ab;refine R q 7 c j fun a c=>?_;obtain ⟨e3,c2,d⟩:=bd d
      refine J cl_6 f c j j ((law17_alive.ok kAlive) c2 f.pass0 ) j ?_;rintro a w _ bv _ ⟨rfl,rfl⟩ cq f c;refine R q 2 c j fun a c=>E (T ?_);cases d
      exact ⟨bv,cq,c.kp j,f⟩
    replace d:=cf ab d;have c:=c.tr (t:=99) j ab;refine R q 3 c j fun a c=>?_;obtain ⟨dh,c3,d⟩:=bd d
    refine J cl_9 f c j j ((labels_Column.ok k) c3 f.pass0 (u.m ((x.t af).t cp))) j ?_;rintro a w _ bw _ ⟨rfl,rfl⟩ a9 f c;refine R q 3 c j fun a c=>?_
    rcases Bo (decide (dh=(-1:Int))) with ac | ac;rotate_left
    · replace d:=cf ac d;have c:=c.tr (t:=106) j ac;refine R q 3 c j fun a c=>E (T ?_);cases d;exact ⟨bw,a9,c.kp j,f⟩
    replace d:=ct ac d;have c:=c.tr (t:=106) j ac;obtain ⟨e4,c4,d⟩:=bd d;refine J cl_6 f c j j ((law17_alive.ok kAlive) c4 f.pass0 ) j ?_
    rintro a w _ bx _ ⟨rfl,rfl⟩ cr f c;refine R q 2 c j fun a c=>E (T ?_);cases d;exact ⟨bx,(a9.t cr),c.kp j,f⟩
  
  refine O (Q c f (fun e L n' a' w'=>∃ i281 l bh ah,n'=List.length l∧i281≤bm.Tables.length∧bm.Tables.drop i281=l∧forL (law17_LabelsTables.b0 k a6) i281 l bh=some bf∧av.le ah∧Env a' 109 (sl e [1,2,7,8,24] [(25,i_ (i281:Int))])∧Inv n g [] ah [] w') _ ⟨0,_,_,av,j,Nat.zero_le _,j,h,rf,c.kp j,(f.dropN 1 j)⟩ ?_)
  rintro eu a w ⟨i281,l,bh,ah,rfl,cw,am,h,i,c,f⟩;rcases l with _ | ⟨bl,l⟩
  · obtain rfl:=Fn h;have a3:=Do am cw;refine S (G (R q 1 c j fun a c=>E (T (S ?_))));have c:=c.tr (t:=26) j (decide_eq_false (by omega))
    refine Fa c j (Ex (Xe (Xe (Xh (T (⟨_,ah,j,i,c.kp j,f⟩))))))
  obtain ⟨ez,d,h⟩:=Fs h;obtain ⟨cy,am,a3⟩:=Dc am;unfold law17_LabelsTables.b0 at d;refine S (G (R q 1 c j fun a c=>E (T (S ?_))))
  have c:=c.tr (t:=26) j (decide_eq_true (by omega))
  refine Tr c j (K (T (S (O (S (G (R q 2 c j fun a c=>E (T (S (S (G (R q 2 c j fun a c=>?_))))))))))));obtain ⟨dj,c5,d⟩:=bd d
  refine J cl_7 f c j j ((labels_Exists.ok k) c5 f.pass0 (u.m i)) j ?_;rintro a w _ d0 _ ⟨rfl,rfl⟩ y f c;refine R q 2 c j fun a c=>?_;obtain ⟨dk,c6,d⟩:=bd d
  refine J cl_8 f c j j ((ref17_Exists.ok k) c6 f.pass0 (aw.m (i.t y))) j ?_;rintro a w _ au _ ⟨rfl,rfl⟩ ag f c
  refine R q 1 c j fun a c=>E (T (Cc (b:=!decide (dj=dk)) c j (fun a1=>?_) (fun a1=>?_)))
  · replace d:=ct a1 d;refine S (G (R q 1 c j fun a c=>E (T (V (Xr (Xb (Xr (Xr (Xb (Xr (Xr ?_)))))))))));cases d;obtain rfl:=Nr h;have d:=Le ay;cases d
    refine N (v:=_) c j ⟨_,_,_,j,f.nil,j,j⟩
  replace d:=cf a1 d
  refine K (T (S (G (R q 3 c j fun a c=>L f c j (Fg q (al.m ((i.t y).t ag)) 1 j j j j) j fun a c=>R q 1 c j fun a c=>?_))))
  obtain ⟨d5,ex,cs,cn,ck,cc⟩:=Sa (ax.m ((i.t y).t ag)) (Int.natCast_nonneg _) (natIdx cy)
  obtain ⟨dr,ea,ds,eb,dt,ec,rfl,b8,ek,el⟩:=TRelation.inv.1 ck
  refine L f c j (I q cn j j j) j fun a c=>R q 1 c j fun a c=>L f c j (Fg q cc 2 j j j j) j fun a c=>R q 2 c j fun a c=>E (T ?_)
  obtain ⟨bg,p,a7⟩:=bd d;refine X c f (fun e L a' w'=>∃ bk ak,bg = .go bk∧au.le ak∧Env a' 109 (sl e [1,2,7,8,24,25] [])∧Inv n g [] ak L w') ?_ ?_;rotate_left
  · rintro a w ⟨bk,ak,rfl,cu,c,f⟩;have d:=Lg a7;refine xB (T (G (R q 2 c j fun a c=>E (T ?_))));cases d;have c:=c.setI (t:=25) j (Wc a3 (Ln ax))
    exact ⟨l.length,Nat.lt_succ_self _,i281 + 1,l,_,ak,j,a3,am,h,(((i.t y).t ag).t cu),c.kp j,f⟩
  
  refine O (Q c f (fun e L n' a' w'=>∃ i346 m bj aj,n'=List.length m∧i346≤bl.Cols.length∧bl.Cols.drop i346=m∧forL (law17_LabelsTables.b1 k a6 i281) i346 m bj=some bg∧au.le aj∧Env a' 109 (sl e [1,2,7,8,9,24,25,43] [(44,i_ (i346:Int))])∧Inv n g [] aj L w') _ ⟨0,_,_,au,j,Nat.zero_le _,j,p,rf,c.kp j,f⟩ ?_)
  rintro ev a w ⟨i346,m,bj,aj,rfl,cx,an,p,ap,c,f⟩;rcases m with _ | ⟨e1,m⟩
  · obtain rfl:=Fn p;have a4:=Do an cx;refine S (G (R q 1 c j fun a c=>E (T (S ?_))));have c:=c.tr (t:=45) j (decide_eq_false (by omega))
    refine Fa c j (Ex (Xe (Xe (Xh (T (⟨_,aj,j,ap,c.kp j,f⟩))))))
  obtain ⟨e0,d,p⟩:=Fs p;obtain ⟨et,an,a4⟩:=Dc an;unfold law17_LabelsTables.b1 at d;refine S (G (R q 1 c j fun a c=>E (T (S ?_))))
  have c:=c.tr (t:=45) j (decide_eq_true (by omega))
  refine Tr c j (K (T (S (O (S (G (R q 2 c j fun a c=>E (T (S (G (R q 3 c j fun a c=>?_)))))))))));obtain ⟨dl,c7,d⟩:=bd d
  refine J cl_9 f c j j ((labels_Column.ok k) c7 f.pass0 (u.m (((i.t y).t ag).t ap))) j ?_;rintro a w _ d1 _ ⟨rfl,rfl⟩ ba f c
  refine R q 3 c j fun a c=>?_;obtain ⟨dm,c8,d⟩:=bd d
  refine J cl_10 f c j j ((ref17_Column.ok k) c8 f.pass0 (aw.m ((((i.t y).t ag).t ap).t ba))) j ?_;rintro a w _ bz _ ⟨rfl,rfl⟩ cv f c
  refine R q 1 c j fun a c=>E (T (Cc (b:=!decide (dl=dm)) c j (fun a0=>?_) (fun a0=>?_)));rotate_left
  · replace d:=cf a0 d;refine K (xB (T (G (R q 2 c j fun a c=>E (T ?_)))));cases d;have c:=c.setI (t:=44) j (Wc a4 (Ln b8))
    exact ⟨m.length,Nat.lt_succ_self _,i346 + 1,m,_,bz,j,a4,an,p,((ap.t ba).t cv),c.kp j,f⟩
  replace d:=ct a0 d;refine S (G (R q 1 c j fun a c=>E (T (V (Xb (Xr (Xr (Xb (Xr (Xb (Xr (Xr (Xb (Xr (Xr ?_)))))))))))))));cases d;obtain rfl:=Nr p
  have d:=Le a7;cases d;obtain rfl:=Nr h;have d:=Le ay;cases d;refine N (v:=_) c j ⟨_,_,_,j,f.nil,j,j⟩

theorem cl_11:Callable Tryz.prog 11:=⟨_,Tryz.func11,by kernel_rfl,by kernel_rfl⟩

def law22_alive.C (s:Option Bool):Prop:=∀ {r},s=some r→∀ {b c},Inv b c [] c [] b→Calls Tryz.prog 11 #[] b (Ret b c [] fun G' L' v=>L'=[]∧v = .bool r)

theorem law22_alive.ok (k:Nat):law22_alive.C (law22_alive k):=by
  intro r b e d c
  cases b
  exact yes_ok Kl_0_ok j c

theorem cl_60:Callable Tryz.prog 60:=⟨_,Tryz.func60,by kernel_rfl,by kernel_rfl⟩

def slices_Clone_api_Named_api_Named.C (s:(List TNamed)→Option (List TNamed)):Prop:=∀ {d r},s d=some r→∀ {c b f h},Inv c b [] b [] c→(Sl b f h 2 (d.map TNamed.d))→Calls Tryz.prog 60 #[.slice f d.length h] c (Ret c b [] fun G' L' v=>L'=[]∧∃ e g,v = .slice e r.length g∧Sl G' e g 2 (r.map TNamed.d))

theorem slices_Clone_api_Named_api_Named.ok (k:Nat):slices_Clone_api_Named_api_Named.C (slices_Clone_api_Named_api_Named k):=by
  intro g r d ac l h z c e
  unfold slices_Clone_api_Named_api_Named at d
  refine Ci 8 Tryz.func60 j j j fun a b=>?_
  refine S (G (R q 1 b j fun a b=>E (T (S (S (G (R q 1 b j fun a b=>?_)))))));rcases h with _ | x
  · obtain rfl:=(e).nil0;have d:some []=some r:=d;cases d
    refine L c b j (f_slnil q j j j j) j fun a b=>E (T (Tr b j (S (G (R q 1 b j fun a b=>E (T (V (Xr (N (v:=_) b j ⟨_,_,_,j,c.nil,j,none,0,j,(Sn _ _ _ _ (Nat.zero_le _))⟩)))))))))
  refine L c b j (f_slnil q j j j j) j fun a b=>E (T (Fa b j (K (T (S (G (Bs ai_34 c b j j j j j fun a w y b c=>?_)))))))
  have o:RL l 2 (([]:List TNamed).map TNamed.d) []:=Rn;refine R q 1 b j fun a b=>?_;obtain ⟨_,t,d⟩:=bd d
  refine s_appG (f:=TNamed.d) (xs:=([]:List TNamed)) (ys:=g) ai_34 0 c b j j e j j (Ll t) j fun a w i m aa b s c=>?_;have p:=Ra o s
  refine R q 1 b j fun a b=>E (T ?_);obtain ⟨u,ab,c,n⟩:=(c.front 0).giveR (xs:=(([]:List TNamed) ++ g).map TNamed.d) (by simp) p;refine V ?_;cases d
  refine N (v:=_) b j ⟨_,_,_,j,c.nil,j,i,m,j,n⟩

theorem cl_34:Callable Tryz.prog 34:=⟨_,Tryz.func34,by kernel_rfl,by kernel_rfl⟩

def schema_Catalog_Principals.C (s:(Option Tschema_Catalog)→Option (List TNamed)):Prop:=∀ {g r},s g=some r→∀ {c b e},Inv c b [] b [] c→(Pt b e 111 Tschema_Catalog.d g)→Calls Tryz.prog 34 #[.pointer e] c (Ret c b [] fun G' L' v=>L'=[]∧∃ d f,v = .slice d r.length f∧Sl G' d f 2 (r.map TNamed.d))

theorem schema_Catalog_Principals.ok (k:Nat):schema_Catalog_Principals.C (schema_Catalog_Principals k):=by
  intro t r d an ac u e h
  unfold schema_Catalog_Principals at d
  refine Ci 10 Tryz.func34 j j j fun a c=>?_
  
  refine S (G (R q 1 c j fun a c=>E (T (S (S (G (R q 1 c j fun a c=>L e c j (f_pnil up_27 h j j) j fun a c=>E (T (Cc (b:=t.isNone) c j (fun f=>?_) (fun f=>?_))))))))))
  · replace d:=ct f d;refine S (G (R q 1 c j fun a c=>E (T (V (Xr ?_)))));cases d
    refine N (v:=_) c j ⟨_,_,_,j,e.nil,j,none,0,j,(Sn _ _ _ _ (Nat.zero_le _))⟩
  replace d:=cf f d;refine K (T (S (G (R q 1 c j fun a c=>?_))));rcases (h).cases with ⟨g,rfl⟩ | ⟨ao,ae,cs,g,rfl,p,o⟩
  · cases op_n g d
  replace d:=op_s g d;obtain ⟨x,y,af,z,aa,ag,ab,ah,rfl,ai,aj,ak,al,m⟩:=Tschema_Catalog.inv.1 p
  refine R q 2 c j fun a c=>L e c j (Fg q o 4 j j j j) j fun a c=>?_;obtain ⟨ap,s,d⟩:=bd d
  refine J cl_60 e c j j ((slices_Clone_api_Named_api_Named.ok k) s e.pass0 m) j ?_;rintro a w _ ad _ ⟨rfl,i,l,rfl,n⟩ am e c;refine R q 1 c j fun a c=>E (T (V ?_))
  cases d;refine N (v:=_) c j ⟨_,_,_,j,e.nil,j,i,l,j,n⟩

theorem cl_107:Callable Tryz.prog 107:=⟨_,Tryz.func107,by kernel_rfl,by kernel_rfl⟩

def schema_find.C (s:(List TNamed)→ByteArray→Option (Int × Bool)):Prop:=∀ {d g r},s d g=some r→∀ {c b e f},Inv c b [] b [] c→(Sl b e f 2 (d.map TNamed.d))→Calls Tryz.prog 107 #[.slice e d.length f,.string g] c (Ret c b [] fun G' L' v=>L'=[]∧v = .tuple ⟨[i_ r.1,.bool r.2]⟩)

theorem schema_find.ok (k:Nat):schema_find.C (schema_find k):=by
  intro z aa r f ad i ak an d u
  unfold schema_find at f
  refine Ci 21 Tryz.func107 j j j fun a c=>?_
  refine S (G (R q 2 c j fun a c=>E (T (S (S (G (R q 3 c j fun a c=>E (T ?_))))))));obtain ⟨y,h,x⟩:=bd f
  refine X c d (fun e L a' w'=>∃ ac n,y = .go ac∧i.le n∧Env a' 21 []∧Inv ad i [] n L w') ?_ ?_;rotate_left
  · rintro a w ⟨ac,n,rfl,ao,c,d⟩;have f:=Lg x;refine T (S (G (R q 2 c j fun a c=>E (T (V ?_)))));cases f;refine N (v:=_) c j ⟨_,_,_,j,d.nil,j,j⟩
  
  refine O (Q c d (fun e L n' a' w'=>∃ i29 g ab l,n'=List.length g∧i29≤z.length∧z.drop i29=g∧forL (schema_find.b0 k aa) i29 g ab=some y∧i.le l∧Env a' 21 (sl e [1,8,9] [(10,i_ (i29:Int))])∧Inv ad i [] l L w') _ ⟨0,_,_,i,j,Nat.zero_le _,j,h,rf,c.kp j,d⟩ ?_)
  rintro ap a w ⟨i29,g,ab,l,rfl,ah,m,h,p,c,d⟩;rcases g with _ | ⟨aj,g⟩
  · obtain rfl:=Fn h;have s:=Do m ah;refine S (G (R q 1 c j fun a c=>E (T (S ?_))));have c:=c.tr (t:=11) j (decide_eq_false (by omega))
    refine Fa c j (Ex (Xe (Xe (Xh (T (⟨_,l,j,p,c.kp j,d⟩))))))
  obtain ⟨ar,f,h⟩:=Fs h;obtain ⟨ai,m,s⟩:=Dc m;unfold schema_find.b0 at f;refine S (G (R q 1 c j fun a c=>E (T (S ?_))))
  have c:=c.tr (t:=11) j (decide_eq_true (by omega));refine Tr c j (K (T (S (O (S (G ?_))))))
  obtain ⟨al,aq,cs,ag,af,ae⟩:=Sa (u.m p) (Int.natCast_nonneg _) (natIdx ai);obtain rfl:=TNamed.inv.1 af
  refine L d c j (I q ag j j j) j fun a c=>L d c j (Fg q ae 0 j j j j) j fun a c=>A d c j z_56 j j fun a w am c d=>W q 0 d c j j j j j j j j j j fun a w c d=>E (T (S (G (R q 1 c j fun a c=>L d c j (B q 0 j j j j) j fun a c=>R q 2 c j fun a c=>E (T (Cc (b:=decide (aj.Name=aa)) c j (fun o=>?_) (fun o=>?_)))))))
  rotate_left
  · replace f:=cf o f;refine K (xB (T (G (R q 2 c j fun a c=>E (T ?_)))));cases f;have c:=c.setI (t:=10) j (Wc s (Ln u))
    exact ⟨g.length,Nat.lt_succ_self _,i29 + 1,g,_,l,j,s,m,h,p,c.kp j,(d.dropN 1 j)⟩
  replace f:=ct o f
  refine S (G (R q 1 c j fun a c=>L d c j (B q 0 j j j j) j fun a c=>R q 2 c j fun a c=>E (T (V (Xb (Xr (Xr (Xb (Xr (Xr ?_))))))))));cases f
  obtain rfl:=Nr h;have f:=Le x;cases f;refine N (v:=_) c j ⟨_,_,_,j,d.nil,j,j⟩

theorem cl_56:Callable Tryz.prog 56:=⟨_,Tryz.func56,by kernel_rfl,by kernel_rfl⟩

def schema_Catalog_Principal.C (s:(Option Tschema_Catalog)→ByteArray→Option (Int × Bool)):Prop:=∀ {e f r},s e f=some r→∀ {c b d},Inv c b [] b [] c→(Pt b d 111 Tschema_Catalog.d e)→Calls Tryz.prog 56 #[.pointer d,.string f] c (Ret c b [] fun G' L' v=>L'=[]∧v = .tuple ⟨[i_ r.1,.bool r.2]⟩)

theorem schema_Catalog_Principal.ok (k:Nat):schema_Catalog_Principal.C (schema_Catalog_Principal k):=by
  intro u x r d y m i c f
  unfold schema_Catalog_Principal at d
  refine Ci 12 Tryz.func56 j j j fun a b=>?_
  refine S (G (R q 2 b j fun a b=>E (T (S (G (R q 1 b j fun a b=>?_))))));obtain ⟨aa,g,d⟩:=bd d
  refine J cl_34 c b j j ((schema_Catalog_Principals.ok k) g c.pass0 f) j ?_;rintro a w _ n _ ⟨rfl,l,p,rfl,e⟩ s c b;refine R q 1 b j fun a b=>?_
  obtain ⟨z,h,d⟩:=bd d;refine J cl_107 c b j j ((schema_find.ok k) h c.pass0 e) j ?_;rintro a w _ o _ ⟨rfl,rfl⟩ t c b;refine R q 4 b j fun a b=>E (T (V ?_))
  cases d;refine N (v:=_) b j ⟨_,_,_,j,c.nil,j,j⟩

theorem cl_59:Callable Tryz.prog 59:=⟨_,Tryz.func59,by kernel_rfl,by kernel_rfl⟩

def audit_sight_1_1.C (s:Int→(Option Tlattice_Lattice)→Int→Option (Bool × (Option Tlattice_Lattice) × Int)):Prop:=∀ {i l g r},s i l g=some r→∀ {c b h e d f},Inv c b h b [.blk e [.iface 104 (.pointer d)] 151,.blk f [i_ g] 3] c→(Pt b d 160 Tlattice_Lattice.d l)→Calls Tryz.prog 59 #[i_ i,(P e),(P f)] c (Ret c b h fun G' L' v=>L'=[.blk e [.iface 104 (.pointer d)] 151,.blk f [i_ g] 3]∧v = .bool r.1)

theorem audit_sight_1_1.ok (k:Nat):audit_sight_1_1.C (audit_sight_1_1 k):=by
  intro p s t r d x m l n i o c e
  unfold audit_sight_1_1 at d
  refine Ci 10 Tryz.func59 j j j fun a b=>?_
  
  refine S (G (R q 1 b j fun a b=>E (T (S (G (L c b j (B q 0 j j j j) j fun a b=>R q 1 b j fun a b=>L c b j (B q 1 j j j j) j fun a b=>?_))))))
  obtain ⟨g,f,d⟩:=bd d;refine s_callI (S:=fun _ L' u=>L'=[]∧u = .bool g) mi_104_Leq cl_36 c b j j j ((lattice_Lattice_Leq.ok k) f c.pass0 e) (fun _ _ _ h=>h.2) j ?_;intro a w c b
  refine R q 2 b j fun a b=>E (T (V ?_));cases d;refine N (v:=_) b j ⟨_,_,_,j,c,j,j⟩

theorem cl_310:Callable Tryz.prog 108:=⟨_,Tryz.func108,by kernel_rfl,by kernel_rfl⟩

def slices_IndexFunc_int_int_audit_sight_1_1.C (s:(List Int)→(Option Tlattice_Lattice)→Int→Option (Int × (Option Tlattice_Lattice) × Int)):Prop:=∀ {g n h r},s g n h=some r→∀ {c b l i m e d f},Inv c b l b [.blk e [.iface 104 (.pointer d)] 151,.blk f [i_ h] 3] c→(Sl b i m 1 (g.map di))→(Pt b d 160 Tlattice_Lattice.d n)→Calls Tryz.prog 108 #[.slice i g.length m,.func (.func 59) #[] ⟨[(P e),(P f)]⟩] c (Ret c b l fun G' L' v=>L'=[.blk e [.iface 104 (.pointer d)] 151,.blk f [i_ h] 3]∧v=i_ r.1)
end Go.Proofs.YtknhbphhdfknaaaGreatDoor
