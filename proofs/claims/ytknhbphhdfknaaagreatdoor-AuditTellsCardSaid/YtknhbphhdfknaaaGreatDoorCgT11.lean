/- The contracts: what the machine does at a call is what the plain function says. Written by mk.py. -/
import Derived.Test.YtknhbphhdfknaaaGreatDoorCgT3
import Derived.Test.YtknhbphhdfknaaaGreatDoorCgT10
set_option linter.unusedVariables false
set_option linter.unusedSimpArgs false
set_option maxRecDepth 100000
namespace Go.Proofs.YtknhbphhdfknaaaGreatDoor
open Go.RowKit
theorem cl_26:Callable Tryz.prog 26:=⟨_,Tryz.func26,by kernel_rfl,by kernel_rfl⟩

def labels_of.C (s:(Option Tschema_Catalog)→(List TNamed)→Option (Option Tlabels_marker)):Prop:=∀ {i d r},s i d=some r→∀ {c b f g h},Inv c b [] b [] c→(Pt b f 111 Tschema_Catalog.d i)→(Sl b g h 2 (d.map TNamed.d))→Calls Tryz.prog 26 #[.pointer f,.slice g d.length h] c (Ret c b [] fun G' L' v=>L'=[]∧∃ e,v = .pointer e∧Pt G' e 147 Tlabels_marker.d r)

theorem labels_of.ok (k:Nat):labels_of.C (labels_of k):=by
  intro ak l r d al ah ag s y c g ac
  unfold labels_of at d
  refine Ci 12 Tryz.func26 j j j fun a b=>?_
  refine S (G (R q 1 b j fun a b=>E (T (S (G (R q 1 b j fun a b=>?_))))));obtain ⟨m,ae,d⟩:=bd d
  refine J cl_35 c b j j ((schema_Catalog_Lattice.ok k) ae c.pass0 g) j ?_;rintro a w _ ai _ ⟨rfl,o,rfl,z⟩ h c b;refine R q 1 b j fun a b=>?_;obtain ⟨n,af,d⟩:=bd d
  refine J cl_25 c b j j ((schema_Catalog_Tables.ok k) af c.pass0 (g.m h)) j ?_;rintro a w _ aj _ ⟨rfl,p,u,rfl,aa⟩ i c b
  refine R q 1 b j fun a b=>L c b j (Bd q j z_147 j j) j fun a b=>s_box c b j j j j fun a w f b c=>R q 1 b j fun a b=>E (T ?_)
  obtain ⟨t,e,c,ad⟩:=(c.front 0).giveB
  have ab:Pt t (p_ f) 147 Tlabels_marker.d (some (Tlabels_marker.mk m n l)):=Pm ((Tlabels_marker.inv (x:=(Tlabels_marker.mk m n l))).2 ⟨o,p,u,s,y,j,(z.m (i.t e)),(aa.m e),(ac.m ((h.t i).t e))⟩) ad
  refine V ?_;cases d;refine N (v:=_) b j ⟨_,_,_,j,c.nil,j,(p_ f),j,ab⟩

theorem cl_101:Callable Tryz.prog 101:=⟨_,Tryz.func101,by kernel_rfl,by kernel_rfl⟩

def lattice_Lattice_Bottom.C (s:(Option Tlattice_Lattice)→Option Int):Prop:=∀ {e r},s e=some r→∀ {c b d},Inv c b [] b [] c→(Pt b d 160 Tlattice_Lattice.d e)→Calls Tryz.prog 101 #[.pointer d] c (Ret c b [] fun G' L' v=>L'=[]∧v=i_ r)

theorem lattice_Lattice_Bottom.ok (k:Nat):lattice_Lattice_Bottom.C (lattice_Lattice_Bottom k):=by
  intro a5 r d ag aa ax f ab
  unfold lattice_Lattice_Bottom at d
  refine Ci 26 Tryz.func101 j j j fun a c=>?_
  refine S (G (R q 1 c j fun a c=>E (T (S (S (G (R q 1 c j fun a c=>?_)))))));obtain ⟨aw,av,d⟩:=bd d
  refine J cl_61 f c j j ((lattice_Lattice_is.ok k) av f.pass0 ab) j ?_;rintro a w _ p _ ⟨rfl,rfl⟩ ar f c
  refine R q 1 c j fun a c=>E (T (Cc (b:=!aw) c j (fun s=>?_) (fun s=>?_)))
  · replace d:=ct s d;refine S (G (R q 1 c j fun a c=>E (T (V (Xr ?_)))));cases d;refine N (v:=_) c j ⟨_,_,_,j,f.nil,j,j⟩
  replace d:=cf s d;refine K (T (S (G (R q 1 c j fun a c=>E (T (S (S (G (R q 1 c j fun a c=>?_)))))))))
  rcases ((ab.m ar)).cases with ⟨y,rfl⟩ | ⟨h,ay,cs,y,rfl,aq,ac⟩
  · cases op_n y d
  replace d:=op_s y d;obtain ⟨ah,al,ai,aj,am,ak,an,rfl,ao,az,a0,a1⟩:=Tlattice_Lattice.inv.1 aq
  refine R q 2 c j fun a c=>L f c j (Fg q ac 0 j j j j) j fun a c=>R q 2 c j fun a c=>E (T ?_);obtain ⟨af,i,ap⟩:=bd d
  refine X c f (fun e L a' w'=>∃ z o,af = .go z∧p.le o∧Env a' 26 [(3,i_ z)]∧Inv ag aa [] o L w') ?_ ?_;rotate_left
  · rintro a w ⟨z,o,rfl,a2,c,f⟩;have d:=Lg ap;refine T (S (G (R q 2 c j fun a c=>E (T (V ?_)))));cases d;refine N (v:=_) c j ⟨_,_,_,j,f.nil,j,j⟩
  
  refine O (Q c f (fun e L n' a' w'=>∃ i58 g n l,n'=List.length g∧i58≤h.names_.length∧h.names_.drop i58=g∧forL (lattice_Lattice_Bottom.b0 k h) i58 g n=some af∧p.le l∧Env a' 26 (sl e [0,12] [(13,i_ (i58:Int)),(3,i_ n)])∧Inv ag aa [] l L w') _ ⟨0,_,_,p,j,Nat.zero_le _,j,i,rf,c.kp j,f⟩ ?_)
  rintro a4 a w ⟨i58,g,n,l,rfl,au,m,i,u,c,f⟩;rcases g with _ | ⟨a7,g⟩
  · obtain rfl:=Fn i;have x:=Do m au;refine S (G (R q 1 c j fun a c=>E (T (S ?_))));have c:=c.tr (t:=14) j (decide_eq_false (by omega))
    refine Fa c j (Ex (Xe (Xe (Xh (T (⟨_,l,j,u,c.kp j,f⟩))))))
  obtain ⟨a6,d,i⟩:=Fs i;obtain ⟨a3,m,x⟩:=Dc m;unfold lattice_Lattice_Bottom.b0 at d;refine S (G (R q 1 c j fun a c=>E (T (S ?_))))
  have c:=c.tr (t:=14) j (decide_eq_true (by omega));refine Tr c j (K (T (S (O (S (G (R q 2 c j fun a c=>E (T (G (R q 5 c j fun a c=>?_))))))))))
  obtain ⟨_,ad,d⟩:=bd d;refine L f c j (f_aidx q ua_158 j j j j ad) j fun a c=>?_;obtain ⟨_,ae,d⟩:=bd d
  refine L f c j (f_aidx q ua_157 j j j j ae) j fun a c=>L f c j (Fg (off:=260 + n.toNat * 16 + (i58:Int).toNat * 1) q (ac.m u) j (Nat.zero_add _).symm j (ar_ld2 (pre:=([.slice ah h.names_.length al,.map ai,.slice aj h.up_.length am,.slice ak h.down_.length an] ++ (arCells .i64 256 h.join_ ++ []))) j (by simp [arCells]) (ar_ij ad ae))) j fun a c=>R q 1 c j fun a c=>E (xB (T (G (R q 2 c j fun a c=>E (T ?_)))))
  cases d;have c:=c.setI (t:=13) j (Wc x (Ln ao));exact ⟨g.length,Nat.lt_succ_self _,i58 + 1,g,_,l,j,x,m,i,u,c.kp j,f⟩

theorem cl_106:Callable Tryz.prog 106:=⟨_,Tryz.func106,by kernel_rfl,by kernel_rfl⟩

def lattice_Lattice_Join.C (s:(Option Tlattice_Lattice)→Int→Int→Option Int):Prop:=∀ {e f g r},s e f g=some r→∀ {c b d},Inv c b [] b [] c→(Pt b d 160 Tlattice_Lattice.d e)→Calls Tryz.prog 106 #[.pointer d,i_ f,i_ g] c (Ret c b [] fun G' L' v=>L'=[]∧v=i_ r)

theorem lattice_Lattice_Join.ok (k:Nat):lattice_Lattice_Join.C (lattice_Lattice_Join k):=by
  intro a0 ao ap r d aq p au f i
  unfold lattice_Lattice_Join at d
  refine Ci 25 Tryz.func106 j j j fun a c=>?_
  refine S (G (R q 1 c j fun a c=>E (T (S (S ?_)))));obtain ⟨x,d,ai⟩:=bd d
  refine X c f (fun e L a' w'=>∃ h,p.le h∧Env a' 25 (sl e [0,1,2] [(16,.bool x)])∧Inv aq p [] h L w') ?_ ?_
  · refine G (R q 2 c j fun a c=>?_);obtain ⟨ar,am,d⟩:=bd d;refine J cl_61 f c j j ((lattice_Lattice_is.ok k) am f.pass0 i) j ?_;rintro a w _ ac _ ⟨rfl,rfl⟩ m f c
    refine R q 2 c j fun a c=>?_;rcases Bo (!ar) with g | g
    · replace d:=ct g d;have c:=c.tr (t:=11) j g;refine R q 5 c j fun a c=>E (T ?_);cases d;exact ⟨ac,m,c.kp j,f⟩
    replace d:=cf g d;have c:=c.tr (t:=11) j g;refine R q 2 c j fun a c=>?_;obtain ⟨a1,an,d⟩:=bd d
    refine J cl_61 f c j j ((lattice_Lattice_is.ok k) an f.pass0 (i.m m)) j ?_;rintro a w _ ad _ ⟨rfl,rfl⟩ al f c;refine R q 2 c j fun a c=>E (T ?_);cases d
    exact ⟨ad,(m.t al),c.kp j,f⟩
  rintro a w ⟨h,ak,c,f⟩;have d:=ai;refine T (Cc (b:=x) c j (fun l=>?_) (fun l=>?_))
  · replace d:=ct l d;refine S (G (R q 1 c j fun a c=>E (T (V (Xr ?_)))));cases d;refine N (v:=_) c j ⟨_,_,_,j,f.nil,j,j⟩
  replace d:=cf l d;refine K (T (S (G (R q 3 c j fun a c=>?_))));rcases ((i.m ak)).cases with ⟨n,rfl⟩ | ⟨o,av,cs,n,rfl,aj,ah⟩
  · cases op_n n d
  replace d:=op_s n d;obtain ⟨y,ae,z,aa,af,ab,ag,rfl,aw,ax,ay,az⟩:=Tlattice_Lattice.inv.1 aj;refine R q 2 c j fun a c=>?_;obtain ⟨_,s,d⟩:=bd d
  refine L f c j (f_aidx q ua_158 j j j j s) j fun a c=>?_;obtain ⟨_,u,d⟩:=bd d
  refine L f c j (f_aidx q ua_157 j j j j u) j fun a c=>L f c j (Fg (off:=4 + ao.toNat * 16 + ap.toNat * 1) q ah j (Nat.zero_add _).symm j (ar_ld2 (pre:=[.slice y o.names_.length ae,.map z,.slice aa o.up_.length af,.slice ab o.down_.length ag]) j (by simp [arCells]) (ar_ij s u))) j fun a c=>R q 1 c j fun a c=>E (T (V ?_))
  cases d;refine N (v:=_) c j ⟨_,_,_,j,f.nil,j,j⟩

theorem cl_55:Callable Tryz.prog 55:=⟨_,Tryz.func55,by kernel_rfl,by kernel_rfl⟩

def labels_marker_together.C (s:(Option Tlabels_marker)→(List Int)→Option Int):Prop:=∀ {h d r},s h d=some r→∀ {c b e f g},Inv c b [] b [] c→(Pt b e 147 Tlabels_marker.d h)→(Sl b f g 1 (d.map di))→Calls Tryz.prog 55 #[.pointer e,.slice f d.length g] c (Ret c b [] fun G' L' v=>L'=[]∧v=i_ r)

theorem labels_marker_together.ok (k:Nat):labels_marker_together.C (labels_marker_together k):=by
  intro a9 ad r d ae y au ay a3 c ag aa
  unfold labels_marker_together at d
  refine Ci 28 Tryz.func55 j j j fun a b=>?_
  refine S (G (R q 1 b j fun a b=>E (T (S (G (R q 1 b j fun a b=>?_))))));rcases (ag).cases with ⟨s,rfl⟩ | ⟨ar,a0,cs,s,rfl,aj,ab⟩
  · cases op_n s d
  replace d:=op_s s d;obtain ⟨av,aw,a1,ax,a2,rfl,z,a4,a5⟩:=Tlabels_marker.inv.1 aj;refine R q 2 b j fun a b=>L c b j (Fg q ab 0 j j j j) j fun a b=>?_
  obtain ⟨bc,ap,d⟩:=bd d;refine J cl_101 c b j j ((lattice_Lattice_Bottom.ok k) ap c.pass0 z) j ?_;rintro a w _ m _ ⟨rfl,rfl⟩ o c b
  refine R q 1 b j fun a b=>E (T (S (S (G (R q 3 b j fun a b=>E (T ?_))))));obtain ⟨ac,g,ai⟩:=bd d
  refine X b c (fun e L a' w'=>∃ x n,ac = .go x∧m.le n∧Env a' 28 [(5,i_ x)]∧Inv ae y [] n L w') ?_ ?_;rotate_left
  · rintro a w ⟨x,n,rfl,a6,b,c⟩;have d:=Lg ai;refine T (S (G (R q 2 b j fun a b=>E (T (V ?_)))));cases d;refine N (v:=_) b j ⟨_,_,_,j,c.nil,j,j⟩
  
  refine O (Q b c (fun e L n' a' w'=>∃ i70 f u i,n'=List.length f∧i70≤ad.length∧ad.drop i70=f∧forL (labels_marker_together.b0 k ar) i70 f u=some ac∧m.le i∧Env a' 28 (sl e [0,13,14] [(15,i_ (i70:Int)),(5,i_ u)])∧Inv ae y [] i L w') _ ⟨0,_,_,m,j,Nat.zero_le _,j,g,rf,b.kp j,c⟩ ?_)
  rintro a7 a w ⟨i70,f,u,i,rfl,an,l,g,h,b,c⟩;rcases f with _ | ⟨bb,f⟩
  · obtain rfl:=Fn g;have p:=Do l an;refine S (G (R q 1 b j fun a b=>E (T (S ?_))));have b:=b.tr (t:=16) j (decide_eq_false (by omega))
    refine Fa b j (Ex (Xe (Xe (Xh (T (⟨_,i,j,h,b.kp j,c⟩))))))
  obtain ⟨ba,d,g⟩:=Fs g;obtain ⟨ao,l,p⟩:=Dc l;unfold labels_marker_together.b0 at d;refine S (G (R q 1 b j fun a b=>E (T (S ?_))))
  have b:=b.tr (t:=16) j (decide_eq_true (by omega));refine Tr b j (K (T (S (O (S (G ?_))))))
  obtain ⟨az,a8,cs,al,ak,ah⟩:=Sa (aa.m (o.t h)) (Int.natCast_nonneg _) (natIdx ao);obtain rfl:=rep_int.1 ak
  refine L c b j (I q al j j j) j fun a b=>L c b j (Fg q ah 0 j j j j) j fun a b=>R q 1 b j fun a b=>E (T (G (R q 3 b j fun a b=>L c b j (Fg q (ab.m (o.t h)) 0 j j j j) j fun a b=>R q 2 b j fun a b=>?_)))
  obtain ⟨be,aq,d⟩:=bd d;refine J cl_106 c b j j ((lattice_Lattice_Join.ok k) aq c.pass0 (z.m (o.t h))) j ?_;rintro a w _ af _ ⟨rfl,rfl⟩ am c b
  refine R q 1 b j fun a b=>E (xB (T (G (R q 2 b j fun a b=>E (T ?_)))));cases d;have b:=b.setI (t:=15) j (Wc p (Ln aa))
  exact ⟨f.length,Nat.lt_succ_self _,i70 + 1,f,_,af,j,p,l,g,(h.t am),b.kp j,c⟩

theorem cl_29:Callable Tryz.prog 29:=⟨_,Tryz.func29,by kernel_rfl,by kernel_rfl⟩

def labels_marker_column.C (s:(Option Tlabels_marker)→Int→Int→Option Int):Prop:=∀ {e f g r},s e f g=some r→∀ {c b d},Inv c b [] b [] c→(Pt b d 147 Tlabels_marker.d e)→Calls Tryz.prog 29 #[.pointer d,i_ f,i_ g] c (Ret c b [] fun G' L' v=>L'=[]∧v=i_ r)

theorem labels_marker_column.ok (k:Nat):labels_marker_column.C (labels_marker_column k):=by
  intro bl bm bn r c bo o ai d g
  unfold labels_marker_column at c
  refine Ci 30 Tryz.func29 j j j fun a b=>?_
  refine S (G (R q 1 b j fun a b=>E (T (S ?_))));rcases (g).cases with ⟨f,rfl⟩ | ⟨bq,ay,cs,f,rfl,aa,i⟩
  · cases op_n f c
  replace c:=op_s f c;obtain ⟨al,am,a3,an,a4,rfl,bb,h,bc⟩:=Tlabels_marker.inv.1 aa
  refine Mx [] [21,22] (.step 0 0 (.step 1 0 (.step 2 0 (.step 3 0 (.step 4 1 (.step 5 0 (.step 6 0 (.step 7 0 (.step 8 1 (.step 9 0 (.step 10 0 (.step 11 0 (.step 12 1 (.step 13 0 (.step 14 0 (.step 15 0 (.step 16 1 (.step 17 0 (.step 18 0 (.step 19 0 (.step 20 1 (.step 21 3 (.step 22 3 (.step 23 0 .nil)))))))))))))))))))))))) mixed (mixF_all (by kernel_rfl)) d (by decide) j fun w d hS=>H q 4 b j fun a b=>Dd hS b j j (Rw fun _=>(Fg q i 1 j j j j)) j fun a b=>H q 1 b j fun a b=>?_
  obtain ⟨n,e,c⟩:=bd c;obtain ⟨az,bj,cs,af,ab,u⟩:=Sa h (Go e).1 (Go e).2;obtain ⟨ao,a5,ap,a6,aq,a7,rfl,be,bf,bg⟩:=TRelation.inv.1 ab
  refine Dr b j j (I q af j j j) j fun a b=>H q 1 b j fun a b=>Dd hS b j j (Rw fun _=>(Fg q u 1 j j j j)) j fun a b=>H q 3 b j fun a b=>Dd hS b j j (Rw fun _=>(Fg q i 1 j j j j)) j fun a b=>H q 1 b j fun a b=>?_
  obtain ⟨a0,bk,cs,ad,ac,x⟩:=Sa h (Go e).1 (Go e).2;obtain ⟨ar,a8,aj,a1,ak,a2,rfl,p,a9,ba⟩:=TRelation.inv.1 ac
  refine Dr b j j (I q ad j j j) j fun a b=>H q 1 b j fun a b=>Dd hS b j j (Rw fun _=>(Fg q x 2 j j j j)) j fun a b=>H q 1 b j fun a b=>?_
  obtain ⟨m,l,c⟩:=bd c;obtain ⟨aw,bi,cs,ae,y,t⟩:=Sa p (Go l).1 (Go l).2;obtain rfl:=TField.inv.1 y
  refine Dr b j j (I q ae j j j) j fun a b=>H q 1 b j fun a b=>Dd hS b j j (Rw fun _=>(Fg q t 3 j j j j)) j fun a b=>Dl j (Bs ai_40 d b j j j j j fun a w ax b d=>?_)
  have z:RL o 1 ([n.Rows,m.Level].map di) _:=(Rc (rep_int.2 j) j (Rc (rep_int.2 j) j Rn));refine Dn (Dl j ?_)
  obtain ⟨au,ag,d,s⟩:=(d.front 0).giveR (xs:=([n.Rows,m.Level]).map di) (by simp) z;obtain ⟨bp,ah,c⟩:=bd c
  refine J cl_55 d b j j ((labels_marker_together.ok k) ah d.pass0 (g.m ag) s) j ?_;rintro a w _ av _ ⟨rfl,rfl⟩ bh d b
  refine Dn (H q 1 b j fun a b=>Dz (T (V ?_)));cases c;refine N (v:=_) b j ⟨_,_,_,j,d.nil,j,j⟩

theorem cl_9:Callable Tryz.prog 9:=⟨_,Tryz.func9,by kernel_rfl,by kernel_rfl⟩

def labels_Column.C (s:(Option Tschema_Catalog)→Int→Int→Option Int):Prop:=∀ {e f g r},s e f g=some r→∀ {c b d},Inv c b [] b [] c→(Pt b d 111 Tschema_Catalog.d e)→Calls Tryz.prog 9 #[.pointer d,i_ f,i_ g] c (Ret c b [] fun G' L' v=>L'=[]∧v=i_ r)

theorem labels_Column.ok (k:Nat):labels_Column.C (labels_Column k):=by
  intro a7 u aj r d ak x am f o
  unfold labels_Column at d
  refine Ci 37 Tryz.func9 j j j fun a c=>?_
  refine S (G (R q 1 c j fun a c=>E (T (S (G (R q 1 c j fun a c=>?_))))));obtain ⟨al,ai,d⟩:=bd d
  refine J cl_25 f c j j ((schema_Catalog_Tables.ok k) ai f.pass0 o) j ?_;rintro a w _ g _ ⟨rfl,an,ax,rfl,y⟩ af f c;refine R q 1 c j fun a c=>E (T (S (S ?_)))
  obtain ⟨s,d,ab⟩:=bd d;refine X c f (fun e L a' w'=>∃ m,g.le m∧Env a' 37 (sl e [0,1,2] [(31,.bool s)])∧Inv ak x [] m L w') ?_ ?_;rotate_left
  · rintro a w ⟨m,ae,c,f⟩;have d:=ab;refine T (Cc (b:=s) c j (fun n=>?_) (fun n=>?_))
    · replace d:=ct n d;refine S (G (R q 1 c j fun a c=>E (T (V (Xr ?_)))));cases d;refine N (v:=_) c j ⟨_,_,_,j,f.nil,j,j⟩
    replace d:=cf n d;refine K (T (S (G (R q 1 c j fun a c=>?_))));obtain ⟨a8,ag,d⟩:=bd d
    refine J cl_26 f c j j ((labels_of.ok k) ag f.pass0 (o.m (af.t ae)) (Sn _ _ _ _ (Nat.zero_le _))) j ?_;rintro a w _ au _ ⟨rfl,ao,rfl,z⟩ a4 f c
    refine R q 2 c j fun a c=>?_;obtain ⟨a9,ah,d⟩:=bd d;refine J cl_29 f c j j ((labels_marker_column.ok k) ah f.pass0 z) j ?_;rintro a w _ av _ ⟨rfl,rfl⟩ a5 f c
    refine R q 1 c j fun a c=>E (T (V ?_));cases d;refine N (v:=_) c j ⟨_,_,_,j,f.nil,j,j⟩
  refine G (R q 3 c j fun a c=>?_);rcases Bo (decide (u < (0:Int))) with h | h
  · replace d:=ct h d;have c:=c.tr (t:=12) j h;refine R q 19 c j fun a c=>E (T ?_);cases d;exact ⟨g,rf,c.kp j,f⟩
  replace d:=cf h d;have c:=c.tr (t:=12) j h;refine R q 6 c j fun a c=>?_;rcases Bo (decide ((al.length:Int)≤u)) with i | i
  · replace d:=ct i d;have c:=c.tr (t:=18) j i;refine R q 13 c j fun a c=>E (T ?_);cases d;exact ⟨g,rf,c.kp j,f⟩
  replace d:=cf i d;have c:=c.tr (t:=18) j i;refine R q 4 c j fun a c=>?_;rcases Bo (decide (aj < (0:Int))) with l | l
  · replace d:=ct l d;have c:=c.tr (t:=22) j l;refine R q 9 c j fun a c=>E (T ?_);cases d;exact ⟨g,rf,c.kp j,f⟩
  replace d:=cf l d;have c:=c.tr (t:=22) j l;refine R q 3 c j fun a c=>?_;obtain ⟨ba,p,d⟩:=bd d
  obtain ⟨aw,a6,cs,ad,ac,aa⟩:=Sa y (Go p).1 (Go p).2;obtain ⟨ap,ay,aq,az,ar,a0,rfl,a1,a2,a3⟩:=TRelation.inv.1 ac
  refine L f c j (I q ad j j j) j fun a c=>R q 1 c j fun a c=>L f c j (Fg q aa 2 j j j j) j fun a c=>R q 3 c j fun a c=>E (T ?_)
  cases d;exact ⟨g,rf,c.kp j,f⟩

theorem cl_60:Callable Tryz.prog 60:=⟨_,Tryz.func60,by kernel_rfl,by kernel_rfl⟩

def slices_Clone_api_Named_api_Named.C (s:(List TNamed)→Option (List TNamed)):Prop:=∀ {d r},s d=some r→∀ {c b f h},Inv c b [] b [] c→(Sl b f h 2 (d.map TNamed.d))→Calls Tryz.prog 60 #[.slice f d.length h] c (Ret c b [] fun G' L' v=>L'=[]∧∃ e g,v = .slice e r.length g∧Sl G' e g 2 (r.map TNamed.d))

theorem slices_Clone_api_Named_api_Named.ok (k:Nat):slices_Clone_api_Named_api_Named.C (slices_Clone_api_Named_api_Named k):=by
  intro g r d ac l h z c e
  unfold slices_Clone_api_Named_api_Named at d
  refine Ci 8 Tryz.func60 j j j fun a b=>?_
  refine S (G (R q 1 b j fun a b=>E (T (S (S (G (R q 1 b j fun a b=>?_)))))));rcases h with _ | x
  · obtain rfl:=(e).nil0;have d:some []=some r:=d;cases d
    refine L c b j (f_slnil q j j j j) j fun a b=>E (T (Tr b j (S (G (R q 1 b j fun a b=>E (T (V (Xr (N (v:=_) b j ⟨_,_,_,j,c.nil,j,none,0,j,(Sn _ _ _ _ (Nat.zero_le _))⟩)))))))))
  refine L c b j (f_slnil q j j j j) j fun a b=>E (T (Fa b j (K (T (S (G (Bs ai_34 c b j j j j j fun a w y b c=>?_)))))))
  have o:RL l 2 (([]:List TNamed).map TNamed.d) []:=Rn;refine R q 1 b j fun a b=>?_;obtain ⟨_,t,d⟩:=bd d
  refine s_appG (f:=TNamed.d) (xs:=([]:List TNamed)) (ys:=g) ai_34 0 c b j j e j j (Ll t) j fun a w i m aa b s c=>?_;have p:=Ra o s
  refine R q 1 b j fun a b=>E (T ?_);obtain ⟨u,ab,c,n⟩:=(c.front 0).giveR (xs:=(([]:List TNamed) ++ g).map TNamed.d) (by simp) p;refine V ?_;cases d
  refine N (v:=_) b j ⟨_,_,_,j,c.nil,j,i,m,j,n⟩

theorem cl_34:Callable Tryz.prog 34:=⟨_,Tryz.func34,by kernel_rfl,by kernel_rfl⟩

def schema_Catalog_Principals.C (s:(Option Tschema_Catalog)→Option (List TNamed)):Prop:=∀ {g r},s g=some r→∀ {c b e},Inv c b [] b [] c→(Pt b e 111 Tschema_Catalog.d g)→Calls Tryz.prog 34 #[.pointer e] c (Ret c b [] fun G' L' v=>L'=[]∧∃ d f,v = .slice d r.length f∧Sl G' d f 2 (r.map TNamed.d))

theorem schema_Catalog_Principals.ok (k:Nat):schema_Catalog_Principals.C (schema_Catalog_Principals k):=by
  intro t r d an ac u e h
  unfold schema_Catalog_Principals at d
  refine Ci 10 Tryz.func34 j j j fun a c=>?_
  
  refine S (G (R q 1 c j fun a c=>E (T (S (S (G (R q 1 c j fun a c=>L e c j (f_pnil up_27 h j j) j fun a c=>E (T (Cc (b:=t.isNone) c j (fun f=>?_) (fun f=>?_))))))))))
  · replace d:=ct f d;refine S (G (R q 1 c j fun a c=>E (T (V (Xr ?_)))));cases d
    refine N (v:=_) c j ⟨_,_,_,j,e.nil,j,none,0,j,(Sn _ _ _ _ (Nat.zero_le _))⟩
  replace d:=cf f d;refine K (T (S (G (R q 1 c j fun a c=>?_))));rcases (h).cases with ⟨g,rfl⟩ | ⟨ao,ae,cs,g,rfl,p,o⟩
  · cases op_n g d
  replace d:=op_s g d;obtain ⟨x,y,af,z,aa,ag,ab,ah,rfl,ai,aj,ak,al,m⟩:=Tschema_Catalog.inv.1 p
  refine R q 2 c j fun a c=>L e c j (Fg q o 4 j j j j) j fun a c=>?_;obtain ⟨ap,s,d⟩:=bd d
  refine J cl_60 e c j j ((slices_Clone_api_Named_api_Named.ok k) s e.pass0 m) j ?_;rintro a w _ ad _ ⟨rfl,i,l,rfl,n⟩ am e c;refine R q 1 c j fun a c=>E (T (V ?_))
  cases d;refine N (v:=_) c j ⟨_,_,_,j,e.nil,j,i,l,j,n⟩

theorem cl_107:Callable Tryz.prog 107:=⟨_,Tryz.func107,by kernel_rfl,by kernel_rfl⟩

def schema_find.C (s:(List TNamed)→ByteArray→Option (Int × Bool)):Prop:=∀ {d g r},s d g=some r→∀ {c b e f},Inv c b [] b [] c→(Sl b e f 2 (d.map TNamed.d))→Calls Tryz.prog 107 #[.slice e d.length f,.string g] c (Ret c b [] fun G' L' v=>L'=[]∧v = .tuple ⟨[i_ r.1,.bool r.2]⟩)

theorem schema_find.ok (k:Nat):schema_find.C (schema_find k):=by
  intro z aa r f ad i ak an d u
  unfold schema_find at f
  refine Ci 21 Tryz.func107 j j j fun a c=>?_
  refine S (G (R q 2 c j fun a c=>E (T (S (S (G (R q 3 c j fun a c=>E (T ?_))))))));obtain ⟨y,h,x⟩:=bd f
  refine X c d (fun e L a' w'=>∃ ac n,y = .go ac∧i.le n∧Env a' 21 []∧Inv ad i [] n L w') ?_ ?_;rotate_left
  · rintro a w ⟨ac,n,rfl,ao,c,d⟩;have f:=Lg x;refine T (S (G (R q 2 c j fun a c=>E (T (V ?_)))));cases f;refine N (v:=_) c j ⟨_,_,_,j,d.nil,j,j⟩
  
  refine O (Q c d (fun e L n' a' w'=>∃ i29 g ab l,n'=List.length g∧i29≤z.length∧z.drop i29=g∧forL (schema_find.b0 k aa) i29 g ab=some y∧i.le l∧Env a' 21 (sl e [1,8,9] [(10,i_ (i29:Int))])∧Inv ad i [] l L w') _ ⟨0,_,_,i,j,Nat.zero_le _,j,h,rf,c.kp j,d⟩ ?_)
  rintro ap a w ⟨i29,g,ab,l,rfl,ah,m,h,p,c,d⟩;rcases g with _ | ⟨aj,g⟩
  · obtain rfl:=Fn h;have s:=Do m ah;refine S (G (R q 1 c j fun a c=>E (T (S ?_))));have c:=c.tr (t:=11) j (decide_eq_false (by omega))
    refine Fa c j (Ex (Xe (Xe (Xh (T (⟨_,l,j,p,c.kp j,d⟩))))))
  obtain ⟨ar,f,h⟩:=Fs h;obtain ⟨ai,m,s⟩:=Dc m;unfold schema_find.b0 at f;refine S (G (R q 1 c j fun a c=>E (T (S ?_))))
  have c:=c.tr (t:=11) j (decide_eq_true (by omega));refine Tr c j (K (T (S (O (S (G ?_))))))
  obtain ⟨al,aq,cs,ag,af,ae⟩:=Sa (u.m p) (Int.natCast_nonneg _) (natIdx ai);obtain rfl:=TNamed.inv.1 af
  refine L d c j (I q ag j j j) j fun a c=>L d c j (Fg q ae 0 j j j j) j fun a c=>A d c j z_56 j j fun a w am c d=>W q 0 d c j j j j j j j j j j fun a w c d=>E (T (S (G (R q 1 c j fun a c=>L d c j (B q 0 j j j j) j fun a c=>R q 2 c j fun a c=>E (T (Cc (b:=decide (aj.Name=aa)) c j (fun o=>?_) (fun o=>?_)))))))
  rotate_left
  · replace f:=cf o f;refine K (xB (T (G (R q 2 c j fun a c=>E (T ?_)))));cases f;have c:=c.setI (t:=10) j (Wc s (Ln u))
    exact ⟨g.length,Nat.lt_succ_self _,i29 + 1,g,_,l,j,s,m,h,p,c.kp j,(d.dropN 1 j)⟩
  replace f:=ct o f
  refine S (G (R q 1 c j fun a c=>L d c j (B q 0 j j j j) j fun a c=>R q 2 c j fun a c=>E (T (V (Xb (Xr (Xr (Xb (Xr (Xr ?_))))))))));cases f
  obtain rfl:=Nr h;have f:=Le x;cases f;refine N (v:=_) c j ⟨_,_,_,j,d.nil,j,j⟩

theorem cl_56:Callable Tryz.prog 56:=⟨_,Tryz.func56,by kernel_rfl,by kernel_rfl⟩

def schema_Catalog_Principal.C (s:(Option Tschema_Catalog)→ByteArray→Option (Int × Bool)):Prop:=∀ {e f r},s e f=some r→∀ {c b d},Inv c b [] b [] c→(Pt b d 111 Tschema_Catalog.d e)→Calls Tryz.prog 56 #[.pointer d,.string f] c (Ret c b [] fun G' L' v=>L'=[]∧v = .tuple ⟨[i_ r.1,.bool r.2]⟩)

theorem schema_Catalog_Principal.ok (k:Nat):schema_Catalog_Principal.C (schema_Catalog_Principal k):=by
  intro u x r d y m i c f
  unfold schema_Catalog_Principal at d
  refine Ci 12 Tryz.func56 j j j fun a b=>?_
  refine S (G (R q 2 b j fun a b=>E (T (S (G (R q 1 b j fun a b=>?_))))));obtain ⟨aa,g,d⟩:=bd d
  refine J cl_34 c b j j ((schema_Catalog_Principals.ok k) g c.pass0 f) j ?_;rintro a w _ n _ ⟨rfl,l,p,rfl,e⟩ s c b;refine R q 1 b j fun a b=>?_
  obtain ⟨z,h,d⟩:=bd d;refine J cl_107 c b j j ((schema_find.ok k) h c.pass0 e) j ?_;rintro a w _ o _ ⟨rfl,rfl⟩ t c b;refine R q 4 b j fun a b=>E (T (V ?_))
  cases d;refine N (v:=_) b j ⟨_,_,_,j,c.nil,j,j⟩

theorem cl_59:Callable Tryz.prog 59:=⟨_,Tryz.func59,by kernel_rfl,by kernel_rfl⟩

def audit_sight_1_1.C (s:Int→(Option Tlattice_Lattice)→Int→Option (Bool × (Option Tlattice_Lattice) × Int)):Prop:=∀ {i l g r},s i l g=some r→∀ {c b h e d f},Inv c b h b [.blk e [.iface 104 (.pointer d)] 151,.blk f [i_ g] 3] c→(Pt b d 160 Tlattice_Lattice.d l)→Calls Tryz.prog 59 #[i_ i,(P e),(P f)] c (Ret c b h fun G' L' v=>L'=[.blk e [.iface 104 (.pointer d)] 151,.blk f [i_ g] 3]∧v = .bool r.1)

theorem audit_sight_1_1.ok (k:Nat):audit_sight_1_1.C (audit_sight_1_1 k):=by
  intro p s t r d x m l n i o c e
  unfold audit_sight_1_1 at d
  refine Ci 10 Tryz.func59 j j j fun a b=>?_
  
  refine S (G (R q 1 b j fun a b=>E (T (S (G (L c b j (B q 0 j j j j) j fun a b=>R q 1 b j fun a b=>L c b j (B q 1 j j j j) j fun a b=>?_))))))
  obtain ⟨g,f,d⟩:=bd d;refine s_callI (S:=fun _ L' u=>L'=[]∧u = .bool g) mi_104_Leq cl_36 c b j j j ((lattice_Lattice_Leq.ok k) f c.pass0 e) (fun _ _ _ h=>h.2) j ?_;intro a w c b
  refine R q 2 b j fun a b=>E (T (V ?_));cases d;refine N (v:=_) b j ⟨_,_,_,j,c,j,j⟩

theorem cl_310:Callable Tryz.prog 108:=⟨_,Tryz.func108,by kernel_rfl,by kernel_rfl⟩

def slices_IndexFunc_int_int_audit_sight_1_1.C (s:(List Int)→(Option Tlattice_Lattice)→Int→Option (Int × (Option Tlattice_Lattice) × Int)):Prop:=∀ {g n h r},s g n h=some r→∀ {c b l i m e d f},Inv c b l b [.blk e [.iface 104 (.pointer d)] 151,.blk f [i_ h] 3] c→(Sl b i m 1 (g.map di))→(Pt b d 160 Tlattice_Lattice.d n)→Calls Tryz.prog 108 #[.slice i g.length m,.func (.func 59) #[] ⟨[(P e),(P f)]⟩] c (Ret c b l fun G' L' v=>L'=[.blk e [.iface 104 (.pointer d)] 151,.blk f [i_ h] 3]∧v=i_ r.1)

theorem slices_IndexFunc_int_int_audit_sight_1_1.ok (k:Nat):slices_IndexFunc_int_int_audit_sight_1_1.C (slices_IndexFunc_int_int_audit_sight_1_1 k):=by
  intro aa aq ar r d ad i u av ay af aw ag f x ah
  unfold slices_IndexFunc_int_int_audit_sight_1_1 at d
  refine Ci 19 Tryz.func108 j j j fun a c=>?_
  refine S (G (R q 1 c j fun a c=>E (T (S (S (G (R q 3 c j fun a c=>E (T ?_))))))));obtain ⟨z,h,y⟩:=bd d
  refine X c f (fun e L a' w'=>∃ ac o,z = .go ac∧i.le o∧Env a' 19 []∧Inv ad i u o L w') ?_ ?_;rotate_left
  · rintro a w ⟨ac,o,rfl,az,c,f⟩;have d:=Lg y;refine T (S (G (R q 1 c j fun a c=>E (T (V ?_)))));cases d;refine N (v:=_) c j ⟨_,_,_,j,f,j,j⟩
  
  refine O (Q c f (fun e L n' a' w'=>∃ i35 g ab l,n'=List.length g∧i35≤aa.length∧aa.drop i35=g∧forL (slices_IndexFunc_int_int_audit_sight_1_1.b0 k aq ar) i35 g ab=some z∧i.le l∧Env a' 19 (sl e [0,1,7] [(8,i_ (i35:Int))])∧Inv ad i u l L w') _ ⟨0,_,_,i,j,Nat.zero_le _,j,h,rf,c.kp j,f⟩ ?_)
  rintro a0 a w ⟨i35,g,ab,l,rfl,an,m,h,n,c,f⟩;rcases g with _ | ⟨a3,g⟩
  · obtain rfl:=Fn h;have s:=Do m an;refine S (G (R q 1 c j fun a c=>E (T (S ?_))));have c:=c.tr (t:=9) j (decide_eq_false (by omega))
    refine Fa c j (Ex (Xe (Xe (Xh (T (⟨_,l,j,n,c.kp j,f⟩))))))
  obtain ⟨a2,d,h⟩:=Fs h;obtain ⟨ao,m,s⟩:=Dc m;unfold slices_IndexFunc_int_int_audit_sight_1_1.b0 at d
  refine S (G (R q 1 c j fun a c=>E (T (S ?_))));have c:=c.tr (t:=9) j (decide_eq_true (by omega))
  refine Tr c j (K (T (S (O (S (G (R q 2 c j fun a c=>E (T (S (G (R q 3 c j fun a c=>?_)))))))))))
  obtain ⟨ax,a1,cs,al,ak,ai⟩:=Sa (x.m n) (Int.natCast_nonneg _) (natIdx ao);obtain rfl:=rep_int.1 ak
  refine L f c j (I q al j j j) j fun a c=>L f c j (Fg q ai 0 j j j j) j fun a c=>?_;obtain ⟨au,ap,d⟩:=bd d
  refine s_callNV 2 (cap:=[(P af),(P ag)]) cl_59 f c j j j (fun aj=>(audit_sight_1_1.ok k) ap aj (ah.m n)) j ?_
  rintro a w _ ae _ ⟨rfl,rfl⟩ am f c;refine E (T (Cc (b:=au.1) c j (fun p=>?_) (fun p=>?_)));rotate_left
  · replace d:=cf p d;refine K (xB (T (G (R q 2 c j fun a c=>E (T ?_)))));cases d;have c:=c.setI (t:=8) j (Wc s (Ln x))
    exact ⟨g.length,Nat.lt_succ_self _,i35 + 1,g,_,ae,j,s,m,h,(n.t am),c.kp j,f⟩
  replace d:=ct p d;refine S (G (R q 2 c j fun a c=>E (T (V (Xb (Xr (Xr (Xb (Xr (Xr ?_))))))))));cases d;obtain rfl:=Nr h;have d:=Le y;cases d
  refine N (v:=_) c j ⟨_,_,_,j,f,j,j⟩

theorem cl_309:Callable Tryz.prog 58:=⟨_,Tryz.func58,by kernel_rfl,by kernel_rfl⟩

def slices_ContainsFunc_int_int_audit_sight_1_1.C (s:(List Int)→(Option Tlattice_Lattice)→Int→Option (Bool × (Option Tlattice_Lattice) × Int)):Prop:=∀ {g n h r},s g n h=some r→∀ {c b l i m e d f},Inv c b l b [.blk e [.iface 104 (.pointer d)] 151,.blk f [i_ h] 3] c→(Sl b i m 1 (g.map di))→(Pt b d 160 Tlattice_Lattice.d n)→Calls Tryz.prog 58 #[.slice i g.length m,.func (.func 59) #[] ⟨[(P e),(P f)]⟩] c (Ret c b l fun G' L' v=>L'=[.blk e [.iface 104 (.pointer d)] 151,.blk f [i_ h] 3]∧v = .bool r.1)

theorem slices_ContainsFunc_int_int_audit_sight_1_1.ok (k:Nat):slices_ContainsFunc_int_int_audit_sight_1_1.C (slices_ContainsFunc_int_int_audit_sight_1_1 k):=by
  intro x y z r c aa n m i t p l s d e f
  unfold slices_ContainsFunc_int_int_audit_sight_1_1 at c
  refine Ci 9 Tryz.func58 j j j fun a b=>?_
  refine S (G (R q 1 b j fun a b=>E (T (S (G (R q 2 b j fun a b=>?_))))));obtain ⟨ab,h,c⟩:=bd c
  refine M 2 cl_310 d b j j (fun g=>(slices_IndexFunc_int_int_audit_sight_1_1.ok k) h g e f) j ?_;rintro a w _ o _ ⟨rfl,rfl⟩ u d b
  refine R q 2 b j fun a b=>E (T (V ?_));cases c;refine N (v:=_) b j ⟨_,_,_,j,d,j,j⟩

theorem cl_14:Callable Tryz.prog 14:=⟨_,Tryz.func14,by kernel_rfl,by kernel_rfl⟩

def audit_Reads.C (s:(Option Tschema_Catalog)→ByteArray→Option (List TGrant)):Prop:=∀ {g h r},s g h=some r→∀ {c b e},Inv c b [] b [] c→(Pt b e 111 Tschema_Catalog.d g)→Calls Tryz.prog 14 #[.pointer e,.string h] c (Ret c b [] fun G' L' v=>L'=[]∧∃ d f,v = .slice d r.length f∧Sl G' d f 2 (r.map TGrant.d))

theorem audit_Reads.ok (k:Nat):audit_Reads.C (audit_Reads k):=by
  intro bu bv r h ac s bh g a3
  unfold audit_Reads at h
  refine Ci 55 Tryz.func14 j j j fun a c=>?_
  refine S (G (R q 1 c j fun a c=>E (T (S (G (R q 1 c j fun a c=>E (T (S (G (R q 2 c j fun a c=>s_inl Tryz.func32 j cl_32 c j j j ?_))))))))))
  have ca:=c;have c:Env _ 20 [(0,.pointer bh),(1,.string bv)]:=Env.start ⟨[.pointer bh,.string bv]⟩ 18
  refine S (G (R q 2 c j fun a c=>E (T (S (G (R q 2 c j fun a c=>?_))))));obtain ⟨ao,c5,h⟩:=bd h
  refine J cl_56 g c j j ((schema_Catalog_Principal.ok k) c5 g.pass0 a3) j ?_;rintro a w _ de _ ⟨rfl,rfl⟩ bc g c
  refine R q 3 c j fun a c=>A g c j z_3 j j fun a w aw c g=>W q 0 g c j j j j j j j j j j fun a w c g=>R q 1 c j fun a c=>E (T (S (G (R q 1 c j fun a c=>?_))))
  obtain ⟨bw,c1,h⟩:=bd h;refine J cl_35 g c j j ((schema_Catalog_Lattice.ok k) c1 g.pass0 (a3.m bc)) j ?_;rintro a w _ db _ ⟨rfl,c6,rfl,b4⟩ bn g c
  refine L g c j (f_mkI up_104 (fun _ e_=>by cases e_) j) j fun a c=>A g c j z_151 j j fun a w ax c g=>W q 0 g c j j j j j j j j j j fun a w c g=>E (T (S (G (L g c j (f_mkfn j) j fun a c=>R q 3 c j fun a c=>E (T (V (N (v:=.tuple ⟨[.func (.func 57) #[] ⟨[(P ax),(P aw)]⟩,.bool ao.2]⟩) c j ⟨_,j,?_⟩)))))))
  have c:=ca.put (d:=15) j (.tuple ⟨[.func (.func 57) #[] ⟨[(P ax),(P aw)]⟩,.bool ao.2]⟩)
  refine R q 5 c j fun a c=>E (T (S (S (G (R q 1 c j fun a c=>?_)))));obtain ⟨bz,c4,h⟩:=bd h
  refine J cl_25 g c j j ((schema_Catalog_Tables.ok k) c4 g.pass0 (a3.m (bc.t bn))) j ?_;rintro a w _ av _ ⟨rfl,da,dp,rfl,bk⟩ bq g c
  refine R q 2 c j fun a c=>E (T ?_);have g:=g.nilrow 54 2;have co:RL av 2 (([]:List TGrant).map TGrant.d) []:=Rn;obtain ⟨bs,y,cc⟩:=bd h
  refine X c g (fun e L a' w'=>∃ o au ap ay a9,bs = .go o∧av.le au∧Env a' 55 [(5,.slice ap o.length ay)]∧Inv ac s [] au [.row (.slice ap o.length ay) 54 2 o.length a9,nt L 1,nt L 2] w'∧RL au 2 (o.map TGrant.d) a9) ?_ ?_
  rotate_left
  · rintro a w ⟨o,au,ap,ay,a9,rfl,ds,c,g,ce⟩;have h:=Lg cc;refine T (S (G (R q 2 c j fun a c=>E (T ?_))))
    obtain ⟨dc,dt,g,b5⟩:=(g.front 0).giveR (xs:=o.map TGrant.d) (by simp) ce;refine V ?_;cases h;refine N (v:=_) c j ⟨_,_,_,j,g.nil,j,ap,ay,j,b5⟩
  
  refine O (Q c g (fun e L n' a' w'=>∃ i1704 m aa i ae ai ak,n'=List.length m∧i1704≤bz.length∧bz.drop i1704=m∧forL (audit_Reads.b0 k ao bu bw) i1704 m aa=some bs∧av.le i∧Env a' 55 (sl e [0,6,7,19,20] [(21,i_ (i1704:Int)),(5,.slice ae aa.length ai)])∧Inv ac s [] i [.row (.slice ae aa.length ai) 54 2 aa.length ak,nt L 1,nt L 2] w'∧RL i 2 (aa.map TGrant.d) ak) _ ⟨0,_,_,av,none,0,[],j,Nat.zero_le _,j,y,rf,c.kp j,g,co⟩ ?_)
  rintro du a w ⟨i1704,m,aa,i,ae,ai,ak,rfl,cx,a4,y,am,c,g,bl⟩;rcases m with _ | ⟨ad,m⟩
  · obtain rfl:=Fn y;have be:=Do a4 cx;refine S (G (R q 1 c j fun a c=>E (T (S ?_))));have c:=c.tr (t:=22) j (decide_eq_false (by omega))
    refine Fa c j (Ex (Xe (Xe (Xh (T (⟨_,i,ae,ai,ak,j,am,c.kp j,g,bl⟩))))))
  obtain ⟨dy,h,y⟩:=Fs y;obtain ⟨cz,a4,be⟩:=Dc a4;unfold audit_Reads.b0 at h;refine S (G (R q 1 c j fun a c=>E (T (S ?_))))
  have c:=c.tr (t:=22) j (decide_eq_true (by omega));refine Tr c j (K (T (S (O (S (G (R q 1 c j fun a c=>?_)))))))
  obtain ⟨df,dw,cs,cp,cg,b7⟩:=Sa (bk.m am) (Int.natCast_nonneg _) (natIdx cz);obtain ⟨c7,dl,c8,dm,c9,dn,rfl,bj,dq,dr⟩:=TRelation.inv.1 cg
  refine L g c j (I q cp j j j) j fun a c=>L g c j (Fg q b7 0 j j j j) j fun a c=>A g c j z_43 j j fun a w dg c g=>R q 1 c j fun a c=>W q 0 g c j j j j j j j j j j fun a w c g=>E (T (S (G (R q 1 c j fun a c=>L g c j (B q 0 j j j j) j fun a c=>R q 2 c j fun a c=>E (T ?_)))))
  obtain ⟨bt,z,cd⟩:=bd h
  refine X c g (fun e L a' w'=>∃ ab ag aq az a1,bt = .go ab∧i.le ag∧Env a' 55 (sl e [0,6,7,19,20,21] [(5,.slice aq ab.length az)])∧Inv ac s [] ag [nt L 0,.row (.slice aq ab.length az) 54 2 ab.length a1,nt L 2,nt L 3] w'∧RL ag 2 (ab.map TGrant.d) a1) ?_ ?_
  rotate_left
  · rintro a w ⟨ab,ag,aq,az,a1,rfl,cu,c,g,ch⟩;have h:=Lg cd;refine xB (T (G (R q 2 c j fun a c=>E (T ?_))));cases h
    have c:=c.setI (t:=21) j (Wc be (Ln bk))
    exact ⟨m.length,Nat.lt_succ_self _,i1704 + 1,m,_,ag,aq,az,a1,j,be,a4,y,(am.t cu),c.kp j,(g.dropN 1 j),ch⟩
  
  refine O (Q c g (fun e L n' a' w'=>∃ i2046 n p l af aj x,n'=List.length n∧i2046≤ad.Cols.length∧ad.Cols.drop i2046=n∧forL (audit_Reads.b1 k ao bu i1704 bw ad) i2046 n p=some bt∧i.le l∧Env a' 55 (sl e [0,6,7,8,9,19,20,21,27,28] [(29,i_ (i2046:Int)),(5,.slice af p.length aj)])∧Inv ac s [] l [nt L 0,.row (.slice af p.length aj) 54 2 p.length x,nt L 2,nt L 3] w'∧RL l 2 (p.map TGrant.d) x) _ ⟨0,_,_,i,ae,ai,ak,j,Nat.zero_le _,j,z,rf,c.kp j,g,bl⟩ ?_)
  rintro dv a w ⟨i2046,n,p,l,af,aj,x,rfl,cy,a5,z,an,c,g,ba⟩;rcases n with _ | ⟨bg,n⟩
  · obtain rfl:=Fn z;have bf:=Do a5 cy;refine S (G (R q 1 c j fun a c=>E (T (S ?_))));have c:=c.tr (t:=30) j (decide_eq_false (by omega))
    refine Fa c j (Ex (Xe (Xe (Xh (T (⟨_,l,af,aj,x,j,an,c.kp j,g,ba⟩))))))
  obtain ⟨dz,h,z⟩:=Fs z;obtain ⟨c0,a5,bf⟩:=Dc a5;unfold audit_Reads.b1 at h;refine S (G (R q 1 c j fun a c=>E (T (S ?_))))
  have c:=c.tr (t:=30) j (decide_eq_true (by omega));refine Tr c j (K (T (S ?_)));obtain ⟨a7,h,cj⟩:=bd h
  refine X c g (fun e L a' w'=>∃ ah ar a0 a2,l.le ah∧Env a' 55 (sl e [0,6,7,8,9,19,20,21,27,28,29] [(5,.slice ar a7.length a0)])∧Inv ac s [] ah [nt L 0,.row (.slice ar a7.length a0) 54 2 a7.length a2,nt L 2,nt L 3] w'∧RL ah 2 (a7.map TGrant.d) a2) ?_ ?_
  rotate_left
  · rintro a w ⟨ah,ar,a0,a2,cv,c,g,ci⟩;have h:=cj;refine T (G (R q 2 c j fun a c=>E (T ?_)));cases h
    have c:=c.setI (t:=29) j (Wc bf (Ln bj))
    exact ⟨n.length,Nat.lt_succ_self _,i2046 + 1,n,_,ah,ar,a0,a2,j,bf,a5,z,(an.t cv),c.kp j,g,ci⟩
  refine O (S (G (R q 1 c j fun a c=>?_)));obtain ⟨dh,dx,cs,cq,ck,b8⟩:=Sa (bj.m an) (Int.natCast_nonneg _) (natIdx c0);obtain rfl:=TField.inv.1 ck
  refine L g c j (I q cq j j j) j fun a c=>L g c j (Fg q b8 0 j j j j) j fun a c=>A g c j z_52 j j fun a w dj c g=>R q 1 c j fun a c=>W q 0 g c j j j j j j j j j j fun a w c g=>E (T (S ?_))
  obtain ⟨br,h,cl⟩:=bd h;refine X c g (fun e L a' w'=>∃ u,l.le u∧Env a' 55 (sl e [0,5,6,7,8,9,11,19,20,21,27,28,29] [(43,.bool br)])∧Inv ac s [] u L w') ?_ ?_
  rotate_left
  · rintro a w ⟨u,a6,c,g⟩;have h:=cl;refine T (Cc (b:=br) c j (fun bb=>?_) (fun bb=>?_));rotate_left
    · replace h:=cf bb h;refine K (xB (T ?_));cases h;exact ⟨u,af,aj,x,a6,c.kp j,(g.dropN 1 j),(ba.m a6)⟩
    replace h:=ct bb h
    refine G (R q 2 c j fun a c=>L g c j (B q 1 j j j j) j fun a c=>R q 1 c j fun a c=>L g c j (B q 0 j j j j) j fun a c=>L g c j (Bd q j z_54 j j) j fun a c=>Bs ai_49 g c j j j j j fun a w dk c g=>?_)
    have bm:RL u 2 ([(TGrant.mk ad.Name bg.Name)].map TGrant.d) _:=(Rc (TGrant.inv.2 j) j Rn);obtain ⟨_,cr,h⟩:=bd h
    refine Ao (f:=TGrant.d) (xs:=p) (ys:=[(TGrant.mk ad.Name bg.Name)]) ai_49 3 0 g c j j j bm j j (Ll cr) j fun a w b0 b3 c g=>?_
    have cm:=Ra (ba.m a6) bm;refine R q 1 c j fun a c=>E (xB (T ?_));cases h
    exact ⟨u,b0,b3,(x ++ [.string ad.Name,.string bg.Name]),a6,c.kp j,(g.dropN 2 j),cm⟩
  refine G (R q 2 c j fun a c=>?_);rcases Bo ao.2 with al | al;rotate_left
  · replace h:=cf al h;have c:=c.tr (t:=35) j al;refine R q 8 c j fun a c=>E (T ?_);cases h;exact ⟨l,rf,c.kp j,g⟩
  replace h:=ct al h;have c:=c.tr (t:=35) j al;refine R q 4 c j fun a c=>?_;obtain ⟨a8,c2,h⟩:=bd h
  refine J cl_9 g c j j ((labels_Column.ok k) c2 g.pass0 (a3.m ((((bc.t bn).t bq).t am).t an))) j ?_;rintro a w _ b1 _ ⟨rfl,rfl⟩ bo g c
  refine Bs ai_40 g c j j j j j fun a w bi c g=>?_;have cn:RL b1 1 ([a8].map di) _:=(Rc (rep_int.2 j) j Rn);refine s_inl Tryz.func57 j cl_57 c j j j ?_
  have b9:=c
  have c:Env _ 9 [(0,.slice (p_ bi) ([a8]).length 1),(1,(P ax)),(2,(P aw))]:=Env.start ⟨[.slice (p_ bi) ([a8]).length 1,(P ax),(P aw)]⟩ 6
  refine S (G (R q 1 c j fun a c=>E (T (S (G (R q 1 c j fun a c=>L g c j (f_mkfn j) j fun a c=>?_))))))
  obtain ⟨dd,bp,g,b6⟩:=(g.front 0).giveR (xs:=([a8]).map di) (by simp) cn;have g:=g.pick [3,4,0,1,2] (by decide) j;obtain ⟨bx,c3,h⟩:=bd h
  refine M 2 cl_309 g c j j (fun cb=>(slices_ContainsFunc_int_int_audit_sight_1_1.ok k) c3 cb b6 (b4.m ((((bq.t am).t an).t bo).t bp))) j ?_
  rintro a w _ b2 _ ⟨rfl,rfl⟩ cw g c;refine R q 2 c j fun a c=>E (T (V (N (v:=.bool (!bx.1)) c j ⟨_,j,?_⟩)));have c:=b9.put (d:=42) j (.bool (!bx.1))
  refine R q 1 c j fun a c=>E (T ?_);cases h;exact ⟨b2,((bo.t bp).t cw),c.kp j,(g.pick [2,3,4,0,1] (by decide) j)⟩

theorem cl_15:Callable Tryz.prog 15:=⟨_,Tryz.func15,by kernel_rfl,by kernel_rfl⟩

def ref03_Texts.C (s:(List ByteArray)→(List ByteArray)→Option Bool):Prop:=∀ {d e r},s d e=some r→∀ {c b f h g i},Inv c b [] b [] c→(Sl b f h 1 (d.map D.str))→(Sl b g i 1 (e.map D.str))→Calls Tryz.prog 15 #[.slice f d.length h,.slice g e.length i] c (Ret c b [] fun G' L' v=>L'=[]∧v = .bool r)

theorem ref03_Texts.ok (k:Nat):ref03_Texts.C (ref03_Texts k):=by
  intro x ac r d af i ar ax au ay f y ag
  unfold ref03_Texts at d
  refine Ci 26 Tryz.func15 j j j fun a c=>?_
  
  refine S (G (R q 1 c j fun a c=>E (T (S (S (G (R q 5 c j fun a c=>E (T (Cc (b:=!decide ((x.length:Int)=(ac.length:Int))) c j (fun s=>?_) (fun s=>?_))))))))))
  · replace d:=ct s d;refine S (G (R q 1 c j fun a c=>E (T (V (Xr ?_)))));cases d;refine N (v:=_) c j ⟨_,_,_,j,f.nil,j,j⟩
  replace d:=cf s d;refine K (T (S (S (G (R q 1 c j fun a c=>E (T ?_))))));obtain ⟨ab,h,z⟩:=bd d
  refine X c f (fun e L a' w'=>∃ ae o,ab = .go ae∧i.le o∧Env a' 26 []∧Inv af i [] o L w') ?_ ?_;rotate_left
  · rintro a w ⟨ae,o,rfl,az,c,f⟩;have d:=Lg z;refine T (S (G (R q 1 c j fun a c=>E (T (V ?_)))));cases d;refine N (v:=_) c j ⟨_,_,_,j,f.nil,j,j⟩
  
  refine O (Q c f (fun e L n' a' w'=>∃ i37 g ad l,n'=List.length g∧i37≤x.length∧x.drop i37=g∧forL (ref03_Texts.b0 k ac) i37 g ad=some ab∧i.le l∧Env a' 26 (sl e [0,1] [(5,i_ (i37:Int))])∧Inv af i [] l L w') _ ⟨0,_,_,i,j,Nat.zero_le _,j,h,rf,c.kp j,f⟩ ?_)
  rintro a0 a w ⟨i37,g,ad,l,rfl,an,m,h,n,c,f⟩;rcases g with _ | ⟨ap,g⟩
  · obtain rfl:=Fn h;have u:=Do m an;refine S (S (G (R q 4 c j fun a c=>E (T ?_))));have c:=c.tr (t:=14) j (decide_eq_false (by omega))
    refine Fa c j (Ex (Xe (Xe (Xh (T (⟨_,l,j,n,c.kp j,f⟩))))))
  obtain ⟨a3,d,h⟩:=Fs h;obtain ⟨ao,m,u⟩:=Dc m;unfold ref03_Texts.b0 at d;refine S (S (G (R q 4 c j fun a c=>E (T ?_))))
  have c:=c.tr (t:=14) j (decide_eq_true (by omega));refine Tr c j (K (T (S (O (S (Cd mixed (by kernel_rfl) f (Y q 2 c j fun a c=>?_)))))))
  obtain ⟨av,a1,cs,al,aj,ah⟩:=Sa (y.m n) (Int.natCast_nonneg _) (natIdx ao);obtain rfl:=rep_str.1 aj
  refine Z c j (I q al j j j) j fun a c=>Z c j (Fg q ah 0 j j j j) j fun a c=>Y q 2 c j fun a c=>?_;obtain ⟨aq,aa,d⟩:=bd d
  obtain ⟨aw,a2,cs,am,ak,ai⟩:=Sa (ag.m n) (Go aa).1 (Go aa).2;obtain rfl:=rep_str.1 ak
  refine Z c j (I q am j j j) j fun a c=>Z c j (Fg q ai 0 j j j j) j fun a c=>Y q 1 c j fun a c=>Qe ?_;intro w f
  refine T (Cc (b:=!decide (ap=aq)) c j (fun p=>?_) (fun p=>?_));rotate_left
  · replace d:=cf p d;refine K (xB (T (G (R q 3 c j fun a c=>E (T ?_)))));cases d;have c:=c.setI (t:=5) j (Wc u (Ln y))
    exact ⟨g.length,Nat.lt_succ_self _,i37 + 1,g,_,l,j,u,m,h,n,c.kp j,f⟩
  replace d:=ct p d;refine S (G (R q 1 c j fun a c=>E (T (V (Xb (Xr (Xr (Xb (Xr (Xr ?_))))))))));cases d;obtain rfl:=Nr h;have d:=Le z;cases d
  refine N (v:=_) c j ⟨_,_,_,j,f.nil,j,j⟩

theorem cl_33:Callable Tryz.prog 33:=⟨_,Tryz.func33,by kernel_rfl,by kernel_rfl⟩

def schema_Catalog_Channels.C (s:(Option Tschema_Catalog)→Option (List TNamed)):Prop:=∀ {g r},s g=some r→∀ {c b e},Inv c b [] b [] c→(Pt b e 111 Tschema_Catalog.d g)→Calls Tryz.prog 33 #[.pointer e] c (Ret c b [] fun G' L' v=>L'=[]∧∃ d f,v = .slice d r.length f∧Sl G' d f 2 (r.map TNamed.d))

theorem schema_Catalog_Channels.ok (k:Nat):schema_Catalog_Channels.C (schema_Catalog_Channels k):=by
  intro t r d an ac u e h
  unfold schema_Catalog_Channels at d
  refine Ci 10 Tryz.func33 j j j fun a c=>?_
  
  refine S (G (R q 1 c j fun a c=>E (T (S (S (G (R q 1 c j fun a c=>L e c j (f_pnil up_27 h j j) j fun a c=>E (T (Cc (b:=t.isNone) c j (fun f=>?_) (fun f=>?_))))))))))
  · replace d:=ct f d;refine S (G (R q 1 c j fun a c=>E (T (V (Xr ?_)))));cases d
    refine N (v:=_) c j ⟨_,_,_,j,e.nil,j,none,0,j,(Sn _ _ _ _ (Nat.zero_le _))⟩
  replace d:=cf f d;refine K (T (S (G (R q 1 c j fun a c=>?_))));rcases (h).cases with ⟨g,rfl⟩ | ⟨ao,ae,cs,g,rfl,p,o⟩
  · cases op_n g d
  replace d:=op_s g d;obtain ⟨x,y,af,z,aa,ag,ab,ah,rfl,ai,aj,ak,m,al⟩:=Tschema_Catalog.inv.1 p
  refine R q 2 c j fun a c=>L e c j (Fg q o 3 j j j j) j fun a c=>?_;obtain ⟨ap,s,d⟩:=bd d
  refine J cl_60 e c j j ((slices_Clone_api_Named_api_Named.ok k) s e.pass0 m) j ?_;rintro a w _ ad _ ⟨rfl,i,l,rfl,n⟩ am e c;refine R q 1 c j fun a c=>E (T (V ?_))
  cases d;refine N (v:=_) c j ⟨_,_,_,j,e.nil,j,i,l,j,n⟩

theorem cl_16:Callable Tryz.prog 16:=⟨_,Tryz.func16,by kernel_rfl,by kernel_rfl⟩

def audit_Hears.C (s:(Option Tschema_Catalog)→ByteArray→Option (List ByteArray)):Prop:=∀ {g h r},s g h=some r→∀ {c b e},Inv c b [] b [] c→(Pt b e 111 Tschema_Catalog.d g)→Calls Tryz.prog 16 #[.pointer e,.string h] c (Ret c b [] fun G' L' v=>L'=[]∧∃ d f,v = .slice d r.length f∧Sl G' d f 1 (r.map D.str))
end Go.Proofs.YtknhbphhdfknaaaGreatDoor
