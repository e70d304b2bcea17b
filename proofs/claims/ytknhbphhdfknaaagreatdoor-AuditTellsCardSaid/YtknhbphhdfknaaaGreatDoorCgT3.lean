/- The contracts: what the machine does at a call is what the plain function says. Written by mk.py. -/
import Derived.Test.YtknhbphhdfknaaaGreatDoorCgT1
import Derived.Test.YtknhbphhdfknaaaGreatDoorCgT2
set_option linter.unusedVariables false
set_option linter.unusedSimpArgs false
set_option maxRecDepth 100000
namespace Go.Proofs.YtknhbphhdfknaaaGreatDoor
open Go.RowKit
theorem lattice_New.ok (k:Nat):lattice_New.C (lattice_New k):=by
  intro bi b5 r d bj p bk bu bl bx f ay az
  unfold lattice_New at d
  refine Ci 37 Tryz.func38 j j j fun a c=>?_
  refine S (G (R q 2 c j fun a c=>E (T (S (S ?_)))));obtain ⟨an,d,a4⟩:=bd d
  refine X c f (fun e L a' w'=>∃ aa,p.le aa∧Env a' 37 (sl e [0,1] [(16,.bool an)])∧Inv bj p [] aa L w') ?_ ?_
  · refine G (R q 4 c j fun a c=>?_);rcases Bo (decide ((16:Int) < (bi.length:Int))) with l | l
    · replace d:=ct l d;have c:=c.tr (t:=12) j l;refine R q 4 c j fun a c=>E (T ?_);cases d;exact ⟨p,rf,c.kp j,f⟩
    replace d:=cf l d;have c:=c.tr (t:=12) j l;refine R q 4 c j fun a c=>E (T ?_);cases d;exact ⟨p,rf,c.kp j,f⟩
  rintro a w ⟨aa,am,c,f⟩;have d:=a4;refine T (Cc (b:=an) c j (fun ag=>?_) (fun ag=>?_))
  · replace d:=ct ag d;refine S (G (R q 2 c j fun a c=>E (T (V (Xr ?_)))));cases d;refine N (v:=_) c j ⟨_,_,_,j,f.nil,j,none,j,Pn⟩
  replace d:=cf ag d;refine K (T (S (G (R q 1 c j fun a c=>?_))));obtain ⟨ao,bc,d⟩:=bd d
  refine J cl_66 f c j j ((slices_Clone_string_string.ok k) bc f.pass0 (ay.m am)) j ?_;rintro a w _ z _ ⟨rfl,ap,av,rfl,ab⟩ bb f c;refine s_makeMap f c j j fun a w bh c f=>?_
  have a2:RM z false D.str di ([]:List (ByteArray × Int)) (#[]:Array MapEntry).toList:=RM.nil
  refine L f c j (Bd q j z_160 j j) j fun a c=>s_box f c j j j j fun a w aj c f=>R q 1 c j fun a c=>E (T (S (S (G (R q 1 c j fun a c=>?_)))))
  have f:=f.nilrow 155 1;have a5:RL z 1 (([]:List Int).map (D.int .u32)) []:=Rn;have f:=f.nilrow 155 1;have a6:RL z 1 (([]:List Int).map (D.int .u32)) []:=Rn
  have f:=f.pick [2,3,1,0] (by decide) j;obtain ⟨ai,be,d⟩:=bd d;refine M 4 cl_67 f c j j (fun i=>(lattice_Lattice_named.ok k) be i ab a2 a5 a6) j ?_
  rintro a w _ bo _ ⟨b4,bz,bm,bv,b0,bn,bw,b1,rfl,rfl,a3,a7,a8⟩ ah f c
  refine R q 1 c j fun a c=>E (T (S (G (R q 2 c j fun a c=>E (T (Cc (b:=!decide (ai.1=(0:Int))) c j (fun af=>?_) (fun af=>?_)))))))
  · replace d:=ct af d;refine S (G (R q 3 c j fun a c=>E (T (V (Xr ?_)))));cases d;refine N (v:=_) c j ⟨_,_,_,j,f.nil,j,none,j,Pn⟩
  replace d:=cf af d;refine K (T (S (S (G (R q 2 c j fun a c=>?_)))));obtain ⟨bp,m,f,ac⟩:=(f.front 1).giveM a3;obtain ⟨g,bf,d⟩:=bd d
  refine M 3 cl_68 f c j j (fun i=>(lattice_Lattice_edges.ok k) bf i ac (a7.m m) (a8.m m) (az.m (((am.t bb).t ah).t m))) j ?_
  rintro a w _ bq _ ⟨aq,aw,b2,ar,ax,b3,rfl,rfl,a9,ba⟩ s f c
  refine R q 1 c j fun a c=>E (T (S (G (R q 2 c j fun a c=>E (T (Cc (b:=!decide (g.1=(0:Int))) c j (fun ae=>?_) (fun ae=>?_)))))))
  · replace d:=ct ae d;refine S (G (R q 3 c j fun a c=>E (T (V (Xr ?_)))));cases d;refine N (v:=_) c j ⟨_,_,_,j,f.nil,j,none,j,Pn⟩
  replace d:=cf ae d;refine K (T (S (S (G (R q 1 c j fun a c=>?_)))));obtain ⟨br,n,f,ak⟩:=(f.front 1).giveR (xs:=g.2.up_.map (D.int .u32)) (by simp) a9
  obtain ⟨bs,h,f,al⟩:=(f.front 1).giveR (xs:=g.2.down_.map (D.int .u32)) (by simp) (ba.m n);obtain ⟨o,bg,d⟩:=bd d
  refine M 1 cl_69 f c j j (fun i=>(lattice_Lattice_tables.ok k) bg i (ab.m ((((ah.t m).t s).t n).t h)) (ac.m ((s.t n).t h)) (ak.m h) al) j ?_
  rintro a w _ bt _ ⟨rfl,rfl⟩ u f c;refine R q 1 c j fun a c=>E (T (Cc (b:=!o.1) c j (fun ad=>?_) (fun ad=>?_)))
  · replace d:=ct ad d;refine S (G (R q 2 c j fun a c=>E (T (V (Xr ?_)))));cases d;refine N (v:=_) c j ⟨_,_,_,j,f.nil,j,none,j,Pn⟩
  replace d:=cf ad d;refine K (T (S (G (R q 3 c j fun a c=>E (T ?_)))));obtain ⟨au,y,f,a1⟩:=(f.front 0).giveB
  have a0:Pt au (p_ aj) 160 Tlattice_Lattice.d (some (Tlattice_Lattice.mk ao ai.2.at_ g.2.up_ g.2.down_ o.2.join_ o.2.meet_)):=Pm ((Tlattice_Lattice.inv (x:=(Tlattice_Lattice.mk ao ai.2.at_ g.2.up_ g.2.down_ o.2.join_ o.2.meet_))).2 ⟨ap,av,(some bh),aq,aw,ar,ax,j,(ab.m ((((((ah.t m).t s).t n).t h).t u).t y)),(ac.m ((((s.t n).t h).t u).t y)),(ak.m ((h.t u).t y)),(al.m (u.t y))⟩) a1
  refine V ?_;cases d;refine N (v:=_) c j ⟨_,_,_,j,f.nil,j,(p_ aj),j,a0⟩

theorem cl_71:Callable Tryz.prog 71:=⟨_,Tryz.func71,by kernel_rfl,by kernel_rfl⟩

def schema_typed.C (s:TTable→Option Int):Prop:=∀ {e r},s e=some r→∀ {c b d},Inv c b [] b [] c→(Rep b e.d d)→Calls Tryz.prog 71 #[.agg ⟨d⟩] c (Ret c b [] fun G' L' v=>L'=[]∧v=i_ r)

theorem schema_typed.ok (k:Nat):schema_typed.C (schema_typed k):=by
  intro ad r f y l a0 d ah
  unfold schema_typed at f
  obtain ⟨ap,ax,aq,ay,ar,az,rfl,z,a1,a2⟩:=TTable.inv.1 ah
  refine Ci 21 Tryz.func71 j j j fun a c=>?_
  
  refine S (G (s_box d c j j j j fun a w au c d=>R q 1 c j fun a c=>E (T (S (S (G (R q 1 c j fun a c=>L d c j (B q 0 j j j j) j fun a c=>R q 2 c j fun a c=>E (T ?_))))))))
  obtain ⟨ac,i,aa⟩:=bd f;refine X c d (fun e L a' w'=>∃ af p,ac = .go af∧l.le p∧Env a' 21 []∧Inv y l [] p [] w') ?_ ?_;rotate_left
  · rintro a w ⟨af,p,rfl,a3,c,d⟩;have f:=Lg aa;refine T (S (G (R q 1 c j fun a c=>E (T (V ?_)))));cases f;refine N (v:=_) c j ⟨_,_,_,j,d.nil,j,j⟩
  
  refine O (Q c d (fun e L n' a' w'=>∃ i48 g ae h,n'=List.length g∧i48≤ad.Cols.length∧ad.Cols.drop i48=g∧forL (schema_typed.b0 k) i48 g ae=some ac∧l.le h∧Env a' 21 (sl e [6,7] [(8,i_ (i48:Int))])∧Inv y l [] h [] w') _ ⟨0,_,_,l,j,Nat.zero_le _,j,i,rf,c.kp j,(d.dropN 1 j)⟩ ?_)
  rintro a4 a w ⟨i48,g,ae,h,rfl,am,o,i,u,c,d⟩;rcases g with _ | ⟨ao,g⟩
  · obtain rfl:=Fn i;have x:=Do o am;refine S (G (R q 1 c j fun a c=>E (T (S ?_))));have c:=c.tr (t:=9) j (decide_eq_false (by omega))
    refine Fa c j (Ex (Xe (Xe (Xh (T (⟨_,h,j,u,c.kp j,d⟩))))))
  obtain ⟨a6,f,i⟩:=Fs i;obtain ⟨an,o,x⟩:=Dc o;unfold schema_typed.b0 at f;refine S (G (R q 1 c j fun a c=>E (T (S ?_))))
  have c:=c.tr (t:=9) j (decide_eq_true (by omega));refine Tr c j (K (T (S (O (S (G ?_))))))
  obtain ⟨av,a5,cs,ak,ai,ag⟩:=Sa (z.m u) (Int.natCast_nonneg _) (natIdx an);obtain rfl:=TCol.inv.1 ai
  refine L d c j (I q ak j j j) j fun a c=>L d c j (Fg q ag 0 j j j j) j fun a c=>A d c j z_165 j j fun a w aw c d=>W q 0 d c j j j j j j j j j j fun a w c d=>E (T (S ?_))
  obtain ⟨ab,f,aj⟩:=bd f;refine X c d (fun e L a' w'=>∃ n,h.le n∧Env a' 21 (sl e [6,7,8] [(19,.bool ab)])∧Inv y l [] n [] w') ?_ ?_
  · refine G (R q 1 c j fun a c=>L d c j (B q 0 j j j j) j fun a c=>R q 2 c j fun a c=>?_);rcases Bo (decide (ao.Type_ < (1:Int))) with m | m
    · replace f:=ct m f;have c:=c.tr (t:=15) j m;refine R q 4 c j fun a c=>E (T ?_);cases f;exact ⟨h,rf,c.kp j,(d.dropN 1 j)⟩
    replace f:=cf m f;have c:=c.tr (t:=15) j m;refine R q 1 c j fun a c=>L d c j (B q 0 j j j j) j fun a c=>R q 2 c j fun a c=>E (T ?_);cases f
    exact ⟨h,rf,c.kp j,(d.dropN 1 j)⟩
  rintro a w ⟨n,al,c,d⟩;have f:=aj;refine T (Cc (b:=ab) c j (fun s=>?_) (fun s=>?_));rotate_left
  · replace f:=cf s f;refine K (xB (T (G (R q 2 c j fun a c=>E (T ?_)))));cases f;have c:=c.setI (t:=8) j (Wc x (Ln z))
    exact ⟨g.length,Nat.lt_succ_self _,i48 + 1,g,_,n,j,x,o,i,(u.t al),c.kp j,d⟩
  replace f:=ct s f;refine S (G (R q 1 c j fun a c=>E (T (V (Xb (Xr (Xr (Xb (Xr (Xr ?_))))))))));cases f;obtain rfl:=Nr i;have f:=Le aa;cases f
  refine N (v:=_) c j ⟨_,_,_,j,d.nil,j,j⟩

theorem cl_70:Callable Tryz.prog 70:=⟨_,Tryz.func70,by kernel_rfl,by kernel_rfl⟩

def schema_Catalog_table_1.C (s:(Option TTable)→Option Int):Prop:=∀ {e r},s e=some r→∀ {c b d},Inv c b [] b [] c→(Pt b d 114 TTable.d e)→Calls Tryz.prog 70 #[.pointer d] c (Ret c b [] fun G' L' v=>L'=[]∧v=i_ r)

theorem schema_Catalog_table_1.ok (k:Nat):schema_Catalog_table_1.C (schema_Catalog_table_1 k):=by
  intro ad r c ae z y d n
  unfold schema_Catalog_table_1 at c
  refine Ci 4 Tryz.func70 j j j fun a b=>?_
  refine S (G (R q 1 b j fun a b=>E (T (S (G ?_)))));rcases (n).cases with ⟨e,rfl⟩ | ⟨af,ab,cs,e,rfl,u,t⟩
  · cases op_n e c
  replace c:=op_s e c;obtain ⟨f,i,g,l,h,m,rfl,o,p,s⟩:=TTable.inv.1 u;refine L d b j (Fg q t 0 j j j j) j fun a b=>?_;obtain ⟨ag,x,c⟩:=bd c
  refine J cl_71 d b j j ((schema_typed.ok k) x d.pass0 (TTable.inv.2 ⟨f,i,g,l,h,m,j,o,p,s⟩)) j ?_;rintro a w _ aa _ ⟨rfl,rfl⟩ ac d b
  refine R q 1 b j fun a b=>E (T (V ?_));cases c;refine N (v:=_) b j ⟨_,_,_,j,d.nil,j,j⟩

theorem cl_78:Callable Tryz.prog 78:=⟨_,Tryz.func78,by kernel_rfl,by kernel_rfl⟩

def lattice_Lattice_Find.C (s:(Option Tlattice_Lattice)→ByteArray→Option (Int × Bool)):Prop:=∀ {e f r},s e f=some r→∀ {c b d},Inv c b [] b [] c→(Pt b d 160 Tlattice_Lattice.d e)→Calls Tryz.prog 78 #[.pointer d,.string f] c (Ret c b [] fun G' L' v=>L'=[]∧v = .tuple ⟨[i_ r.1,.bool r.2]⟩)

theorem lattice_Lattice_Find.ok (k:Nat):lattice_Lattice_Find.C (lattice_Lattice_Find k):=by
  intro t al r d am ad u e h
  unfold lattice_Lattice_Find at d
  refine Ci 21 Tryz.func78 j j j fun a c=>?_
  
  refine S (G (R q 2 c j fun a c=>E (T (S (S (G (R q 1 c j fun a c=>L e c j (f_pnil up_104 h j j) j fun a c=>E (T (Cc (b:=t.isNone) c j (fun f=>?_) (fun f=>?_))))))))))
  · replace d:=ct f d;refine S (G (R q 2 c j fun a c=>E (T (V (Xr ?_)))));cases d;refine N (v:=_) c j ⟨_,_,_,j,e.nil,j,j⟩
  replace d:=cf f d;refine K (T (S (G (R q 1 c j fun a c=>?_))));rcases (h).cases with ⟨g,rfl⟩ | ⟨an,ae,cs,g,rfl,n,m⟩
  · cases op_n g d
  replace d:=op_s g d;obtain ⟨z,af,aa,ab,ag,ac,ah,rfl,ai,l,aj,ak⟩:=Tlattice_Lattice.inv.1 n
  refine R q 2 c j fun a c=>L e c j (Fg q m 1 j j j j) j fun a c=>R q 1 c j fun a c=>?_
  obtain ⟨i,u23,o,s,p⟩:=f_lookG key_str l um_109 uk_9 true c (L:=[]) (x:=.tmp 14) (y:=.tmp 15) j j z_3 (rep_int.2 j) j;obtain rfl:i=[u23]:=s;obtain rfl:=rep1_int.1 o
  refine L e c j (p _ _ _) j fun a c=>R q 5 c j fun a c=>E (T (S (G (R q 4 c j fun a c=>E (T (V ?_))))));cases d
  refine N (v:=_) c j ⟨_,_,_,j,e.nil,j,j⟩

theorem cl_73:Callable Tryz.prog 73:=⟨_,Tryz.func73,by kernel_rfl,by kernel_rfl⟩

def schema_Catalog_levels.C (s:Tschema_Catalog→TTable→TRelation→Option (Int × Tschema_Catalog × TRelation)):Prop:=∀ {d p b r},s d p b=some r→∀ {e c l g f u4 u5 u6 u7 n h i m o u26 u27},Inv e c l c [.blk g [.pointer f,u4,u5,u6,u7,i_ d.limit_] 111,.blk h [.string b.Name,i_ b.Rows,.slice i b.Cols.length m,u26,i_ b.Hide,u27] 43,.row (.slice i b.Cols.length m) 52 4 b.Cols.length o] e→(Pt c f 160 Tlattice_Lattice.d d.lattice_)→(Rep c p.d n)→(RL c 4 (b.Cols.map TField.d) o)→Calls Tryz.prog 73 #[(P g),.agg ⟨n⟩,(P h)] e (Ret e c l fun G' L' v=>∃ A1_2 c1_2 e1_2,L'=[.blk g [.pointer f,u4,u5,u6,u7,i_ d.limit_] 111,.blk h [.string b.Name,i_ r.2.2.Rows,.slice A1_2 r.2.2.Cols.length c1_2,u26,i_ b.Hide,u27] 43,.row (.slice A1_2 r.2.2.Cols.length c1_2) 52 4 r.2.2.Cols.length e1_2]∧v=i_ r.1∧RL G' 4 (r.2.2.Cols.map TField.d) e1_2)

theorem schema_Catalog_levels.ok (k:Nat):schema_Catalog_levels.C (schema_Catalog_levels k):=by
  intro bg az ab r f a0 z an bl bj u4 u5 u6 u7 bs ap am aq ar u26 u27 d av a5 ax
  unfold schema_Catalog_levels at f
  obtain ⟨bk,br,bh,bp,bi,bq,rfl,au,bu,bv⟩:=TTable.inv.1 a5
  refine Ci 58 Tryz.func73 j j j fun a c=>?_
  
  refine S (G (s_box d c j j j j fun a w bo c d=>R q 1 c j fun a c=>E (T (S (Cd mixed (by kernel_rfl) d (Y q 3 c j fun a c=>Z c j (B q 1 j j j j) j fun a c=>Y q 1 c j fun a c=>Z c j (B q 0 j j j j) j fun a c=>?_))))))
  obtain ⟨ai,bf,f⟩:=bd f;refine Qc cl_78 c j j (fun w d=>(lattice_Lattice_Find.ok k) bf d.pass0 av) (fun _ _ _ h=>h.2) j fun a c=>Y q 5 c j fun a c=>Qe ?_;intro w d
  refine T (S (S (G (R q 2 c j fun a c=>E (T (Cc (b:=!ai.2) c j (fun ak=>?_) (fun ak=>?_)))))))
  · replace f:=ct ak f;refine S (G (R q 1 c j fun a c=>E (T (V (Xr ?_)))));cases f
    refine N (v:=_) c j ⟨_,_,_,j,(d.pick [1,2,3] (by decide) j),am,aq,ar,j,j,ax⟩
  replace f:=cf ak f
  refine K (T (S (G (R q 4 c j fun a c=>W q 2 d c j j j j j j j j j j fun a w c d=>E (T (S (S (G (R q 1 c j fun a c=>L d c j (B q 0 j j j j) j fun a c=>R q 2 c j fun a c=>E (T ?_))))))))))
  obtain ⟨ay,o,aw⟩:=bd f
  refine X c d (fun e L a' w'=>∃ x ad ac ae af,ay = .go x∧z.le ad∧Env a' 58 []∧Inv a0 z an ad [nt L 1,.blk ap [.string ab.Name,i_ ai.1,.slice ac x.length ae,u26,i_ ab.Hide,u27] 43,.row (.slice ac x.length ae) 52 4 x.length af] w'∧RL ad 4 (x.map TField.d) af) ?_ ?_
  rotate_left
  · rintro a w ⟨x,ad,ac,ae,af,rfl,bw,c,d,a2⟩;have f:=Lg aw;refine T (S (G (R q 1 c j fun a c=>E (T (V ?_)))));cases f
    refine N (v:=_) c j ⟨_,_,_,j,d,ac,ae,af,j,j,a2⟩
  
  refine O (Q c d (fun e L n' a' w'=>∃ i137 l i m y s n,n'=List.length l∧i137≤az.Cols.length∧az.Cols.drop i137=l∧forL (schema_Catalog_levels.b0 k bg ab ai) i137 l i=some ay∧z.le m∧Env a' 58 (sl e [0,2,30,31] [(32,i_ (i137:Int))])∧Inv a0 z an m [nt L 1,.blk ap [.string ab.Name,i_ ai.1,.slice y i.length s,u26,i_ ab.Hide,u27] 43,.row (.slice y i.length s) 52 4 i.length n] w'∧RL m 4 (i.map TField.d) n) _ ⟨0,_,_,z,am,aq,ar,j,Nat.zero_le _,j,o,rf,c.kp j,(d.dropN 1 j),ax⟩ ?_)
  rintro bx a w ⟨i137,l,i,m,y,s,n,rfl,a9,ag,o,ah,c,d,aa⟩;rcases l with _ | ⟨b1,l⟩
  · obtain rfl:=Fn o;have al:=Do ag a9;refine S (G (R q 1 c j fun a c=>E (T (S ?_))));have c:=c.tr (t:=33) j (decide_eq_false (by omega))
    refine Fa c j (Ex (Xe (Xe (Xh (T (⟨_,m,y,s,n,j,ah,c.kp j,d,aa⟩))))))
  obtain ⟨b0,f,o⟩:=Fs o;obtain ⟨bc,ag,al⟩:=Dc ag;unfold schema_Catalog_levels.b0 at f;refine S (G (R q 1 c j fun a c=>E (T (S ?_))))
  have c:=c.tr (t:=33) j (decide_eq_true (by omega));refine Tr c j (K (T (S (O (S (G (R q 1 c j fun a c=>?_)))))))
  obtain ⟨bm,bz,cs,a6,a3,a1⟩:=Sa (au.m ah) (Int.natCast_nonneg _) (natIdx bc);obtain rfl:=TCol.inv.1 a3
  refine L d c j (I q a6 j j j) j fun a c=>L d c j (Fg q a1 0 j j j j) j fun a c=>A d c j z_165 j j fun a w bn c d=>R q 1 c j fun a c=>W q 0 d c j j j j j j j j j j fun a w c d=>E (T (S (Cd mixed (by kernel_rfl) d (Y q 3 c j fun a c=>Z c j (B q 1 j j j j) j fun a c=>Y q 1 c j fun a c=>Z c j (B q 0 j j j j) j fun a c=>?_))))
  obtain ⟨p,be,f⟩:=bd f;refine Qc cl_78 c j j (fun w d=>(lattice_Lattice_Find.ok k) be d.pass0 (av.m ah)) (fun _ _ _ h=>h.2) j fun a c=>Y q 5 c j fun a c=>Qe ?_
  intro w d;refine T (S (S (G (R q 2 c j fun a c=>E (T (Cc (b:=!p.2) c j (fun aj=>?_) (fun aj=>?_)))))))
  · replace f:=ct aj f;refine S (G (R q 1 c j fun a c=>E (T (V (Xr (Xb (Xr (Xr (Xb (Xr (Xr ?_)))))))))));cases f;obtain rfl:=Nr o;have f:=Le aw;cases f
    refine N (v:=_) c j ⟨_,_,_,j,(d.pick [1,2,3] (by decide) j),y,s,n,j,j,aa⟩
  replace f:=cf aj f;refine K (T (G (R q 3 c j fun a c=>L d c j (B q 2 j j j j) j fun a c=>R q 2 c j fun a c=>?_)));obtain ⟨g,u,f⟩:=bd f
  obtain ⟨ao,rfl⟩:=row_ptr 3 d j j (Go u).2;obtain ⟨bt,a8,bb,a7⟩:=Rt aa (Go u).2;obtain rfl:=TField.inv.1 bb
  refine L d c j (I q (Ro (Go u).1 (Go u).2 ao 4) j j j) j fun a c=>R q 1 c j fun a c=>s_storeS (xs:=i) (j:=(i137:Int)) (y':=(TField.mk g.Name g.Type_ g.Null p.1)) q 3 d c j j a7 a8 (Rl aa (Go u).2) 3 j j j j j j j j fun a w c ba d=>?_
  have a4:RL m 4 ((setO i (i137:Int) (TField.mk g.Name g.Type_ g.Null p.1)).map TField.d) (putAt n ((i137:Int).toNat * 4) [.string g.Name,i_ g.Type_,.bool g.Null,i_ p.1]):=RL.set aa (row_lt (Go u).2) (TField.inv.2 j) ba
  have c:=c.setV (t:=52) j (Ss (xs:=i) (j:=(i137:Int)) (y':=(TField.mk g.Name g.Type_ g.Null p.1)))
  rw [Ss (xs:=i) (j:=(i137:Int)) (y':=(TField.mk g.Name g.Type_ g.Null p.1))] at d;refine E (xB (T (G (R q 2 c j fun a c=>E (T ?_)))));cases f
  have c:=c.setI (t:=32) j (Wc al (Ln au))
  exact ⟨l.length,Nat.lt_succ_self _,i137 + 1,l,_,m,(p_ ao),s,(putAt n ((i137:Int).toNat * 4) [.string g.Name,i_ g.Type_,.bool g.Null,i_ p.1]),j,al,ag,o,ah,c.kp j,(d.dropN 1 j),a4⟩

theorem cl_61:Callable Tryz.prog 61:=⟨_,Tryz.func61,by kernel_rfl,by kernel_rfl⟩

def lattice_Lattice_is.C (s:(Option Tlattice_Lattice)→Int→Option Bool):Prop:=∀ {e f r},s e f=some r→∀ {c b d},Inv c b [] b [] c→(Pt b d 160 Tlattice_Lattice.d e)→Calls Tryz.prog 61 #[.pointer d,i_ f] c (Ret c b [] fun G' L' v=>L'=[]∧v = .bool r)

theorem lattice_Lattice_is.ok (k:Nat):lattice_Lattice_is.C (lattice_Lattice_is k):=by
  intro u x r c y f z d m
  unfold lattice_Lattice_is at c
  refine Ci 20 Tryz.func61 j j j fun a b=>?_
  refine S (G (R q 1 b j fun a b=>E (T (S ?_))));obtain ⟨s,c,o⟩:=bd c
  refine X b d (fun e L a' w'=>∃ i,f.le i∧Env a' 20 [(4,.bool s)]∧Inv y f [] i L w') ?_ ?_;rotate_left
  · rintro a w ⟨i,am,b,d⟩;have c:=o;refine T (V ?_);cases c;refine N (v:=_) b j ⟨_,_,_,j,d.nil,j,j⟩
  refine G (R q 1 b j fun a b=>L d b j (f_pnn up_104 m j j) j fun a b=>R q 1 b j fun a b=>?_);rcases Bo (!u.isNone) with g | g;rotate_left
  · replace c:=cf g c;have b:=b.tr (t:=7) j g;refine R q 13 b j fun a b=>E (T ?_);cases c;exact ⟨f,rf,b.kp j,d⟩
  replace c:=ct g c;have b:=b.tr (t:=7) j g;refine R q 4 b j fun a b=>?_;rcases Bo (decide ((0:Int)≤x)) with h | h;rotate_left
  · replace c:=cf h c;have b:=b.tr (t:=11) j h;refine R q 9 b j fun a b=>E (T ?_);cases c;exact ⟨f,rf,b.kp j,d⟩
  replace c:=ct h c;have b:=b.tr (t:=11) j h;refine R q 2 b j fun a b=>?_;rcases (m).cases with ⟨l,rfl⟩ | ⟨an,ae,cs,l,rfl,p,n⟩
  · cases op_n l c
  replace c:=op_s l c;obtain ⟨aa,af,ab,ac,ag,ad,ah,rfl,ai,aj,ak,al⟩:=Tlattice_Lattice.inv.1 p
  refine R q 2 b j fun a b=>L d b j (Fg q n 0 j j j j) j fun a b=>R q 4 b j fun a b=>E (T ?_);cases c;exact ⟨f,rf,b.kp j,d⟩

theorem cl_36:Callable Tryz.prog 36:=⟨_,Tryz.func36,by kernel_rfl,by kernel_rfl⟩

def lattice_Lattice_Leq.C (s:(Option Tlattice_Lattice)→Int→Int→Option Bool):Prop:=∀ {e f g r},s e f g=some r→∀ {c b d},Inv c b [] b [] c→(Pt b d 160 Tlattice_Lattice.d e)→Calls Tryz.prog 36 #[.pointer d,i_ f,i_ g] c (Ret c b [] fun G' L' v=>L'=[]∧v = .bool r)

theorem lattice_Lattice_Leq.ok (k:Nat):lattice_Lattice_Leq.C (lattice_Lattice_Leq k):=by
  intro a4 a5 a6 r c ak o an d l
  unfold lattice_Lattice_Leq at c
  refine Ci 26 Tryz.func36 j j j fun a b=>?_
  refine S (G (R q 1 b j fun a b=>E (T (S ?_))));obtain ⟨aj,c,ab⟩:=bd c
  refine X b d (fun e L a' w'=>∃ i,o.le i∧Env a' 26 [(6,.bool aj)]∧Inv ak o [] i L w') ?_ ?_;rotate_left
  · rintro a w ⟨i,a2,b,d⟩;have c:=ab;refine T (V ?_);cases c;refine N (v:=_) b j ⟨_,_,_,j,d.nil,j,j⟩
  refine G (R q 2 b j fun a b=>?_);obtain ⟨al,ag,c⟩:=bd c;refine J cl_61 d b j j ((lattice_Lattice_is.ok k) ag d.pass0 l) j ?_;rintro a w _ s _ ⟨rfl,rfl⟩ h d b
  refine R q 1 b j fun a b=>?_;rcases Bo al with f | f;rotate_left
  · replace c:=cf f c;have b:=b.tr (t:=10) j f;refine R q 16 b j fun a b=>E (T ?_);cases c;exact ⟨s,h,b.kp j,d⟩
  replace c:=ct f c;have b:=b.tr (t:=10) j f;refine R q 2 b j fun a b=>?_;obtain ⟨am,ah,c⟩:=bd c
  refine J cl_61 d b j j ((lattice_Lattice_is.ok k) ah d.pass0 (l.m h)) j ?_;rintro a w _ u _ ⟨rfl,rfl⟩ m d b;refine R q 2 b j fun a b=>?_;rcases Bo am with g | g
  rotate_left
  · replace c:=cf g c;have b:=b.tr (t:=15) j g;refine R q 11 b j fun a b=>E (T ?_);cases c;exact ⟨u,(h.t m),b.kp j,d⟩
  replace c:=ct g c;have b:=b.tr (t:=15) j g;refine R q 1 b j fun a b=>?_;rcases ((l.m (h.t m))).cases with ⟨n,rfl⟩ | ⟨a7,au,cs,n,rfl,ac,z⟩
  · cases op_n n c
  replace c:=op_s n c;obtain ⟨ao,aw,ap,aq,ax,ar,ay,rfl,az,a0,y,a1⟩:=Tlattice_Lattice.inv.1 ac
  refine R q 2 b j fun a b=>L d b j (Fg q z 2 j j j j) j fun a b=>R q 1 b j fun a b=>?_;obtain ⟨a8,p,c⟩:=bd c
  obtain ⟨av,a3,cs,ae,ad,aa⟩:=Sa y (Go p).1 (Go p).2;obtain rfl:=rep_int.1 ad
  refine L d b j (I q ae j j j) j fun a b=>L d b j (Fg q aa 0 j j j j) j fun a b=>R q 1 b j fun a b=>?_;obtain ⟨a9,ai,c⟩:=bd c
  refine J cl_62 d b j j ((lattice_set_has.ok k) ai d.pass0 ) j ?_;rintro a w _ x _ ⟨rfl,rfl⟩ af d b;refine R q 2 b j fun a b=>E (T ?_);cases c
  exact ⟨x,((h.t m).t af),b.kp j,d⟩

theorem cl_143:Callable Tryz.prog 143:=⟨_,Tryz.func143,by kernel_rfl,by kernel_rfl⟩

def slices_Index_int_int.C (s:(List Int)→Int→Option Int):Prop:=∀ {d g r},s d g=some r→∀ {c b e f},Inv c b [] b [] c→(Sl b e f 1 (d.map di))→Calls Tryz.prog 143 #[.slice e d.length f,i_ g] c (Ret c b [] fun G' L' v=>L'=[]∧v=i_ r)

theorem slices_Index_int_int.ok (k:Nat):slices_Index_int_int.C (slices_Index_int_int k):=by
  intro z aa r d ad i ak am f u
  unfold slices_Index_int_int at d
  refine Ci 19 Tryz.func143 j j j fun a c=>?_
  refine S (G (R q 1 c j fun a c=>E (T (S (S (G (R q 3 c j fun a c=>E (T ?_))))))));obtain ⟨y,h,x⟩:=bd d
  refine X c f (fun e L a' w'=>∃ ac n,y = .go ac∧i.le n∧Env a' 19 []∧Inv ad i [] n L w') ?_ ?_;rotate_left
  · rintro a w ⟨ac,n,rfl,an,c,f⟩;have d:=Lg x;refine T (S (G (R q 1 c j fun a c=>E (T (V ?_)))));cases d;refine N (v:=_) c j ⟨_,_,_,j,f.nil,j,j⟩
  
  refine O (Q c f (fun e L n' a' w'=>∃ i26 g ab l,n'=List.length g∧i26≤z.length∧z.drop i26=g∧forL (slices_Index_int_int.b0 k aa) i26 g ab=some y∧i.le l∧Env a' 19 (sl e [0,1,7] [(8,i_ (i26:Int))])∧Inv ad i [] l L w') _ ⟨0,_,_,i,j,Nat.zero_le _,j,h,rf,c.kp j,f⟩ ?_)
  rintro ao a w ⟨i26,g,ab,l,rfl,ah,m,h,p,c,f⟩;rcases g with _ | ⟨aj,g⟩
  · obtain rfl:=Fn h;have s:=Do m ah;refine S (G (R q 1 c j fun a c=>E (T (S ?_))));have c:=c.tr (t:=9) j (decide_eq_false (by omega))
    refine Fa c j (Ex (Xe (Xe (Xh (T (⟨_,l,j,p,c.kp j,f⟩))))))
  obtain ⟨aq,d,h⟩:=Fs h;obtain ⟨ai,m,s⟩:=Dc m;unfold slices_Index_int_int.b0 at d;refine S (G (R q 1 c j fun a c=>E (T (S ?_))))
  have c:=c.tr (t:=9) j (decide_eq_true (by omega))
  refine Tr c j (K (T (S (O (S (G (R q 2 c j fun a c=>E (T (S (G (R q 3 c j fun a c=>?_)))))))))))
  obtain ⟨al,ap,cs,ag,af,ae⟩:=Sa (u.m p) (Int.natCast_nonneg _) (natIdx ai);obtain rfl:=rep_int.1 af
  refine L f c j (I q ag j j j) j fun a c=>L f c j (Fg q ae 0 j j j j) j fun a c=>R q 1 c j fun a c=>E (T (Cc (b:=decide (aa=aj)) c j (fun o=>?_) (fun o=>?_)))
  rotate_left
  · replace d:=cf o d;refine K (xB (T (G (R q 2 c j fun a c=>E (T ?_)))));cases d;have c:=c.setI (t:=8) j (Wc s (Ln u))
    exact ⟨g.length,Nat.lt_succ_self _,i26 + 1,g,_,l,j,s,m,h,p,c.kp j,f⟩
  replace d:=ct o d;refine S (G (R q 2 c j fun a c=>E (T (V (Xb (Xr (Xr (Xb (Xr (Xr ?_))))))))));cases d;obtain rfl:=Nr h;have d:=Le x;cases d
  refine N (v:=_) c j ⟨_,_,_,j,f.nil,j,j⟩

theorem cl_111:Callable Tryz.prog 111:=⟨_,Tryz.func111,by kernel_rfl,by kernel_rfl⟩

def slices_Contains_int_int.C (s:(List Int)→Int→Option Bool):Prop:=∀ {d g r},s d g=some r→∀ {c b e f},Inv c b [] b [] c→(Sl b e f 1 (d.map di))→Calls Tryz.prog 111 #[.slice e d.length f,i_ g] c (Ret c b [] fun G' L' v=>L'=[]∧v = .bool r)

theorem slices_Contains_int_int.ok (k:Nat):slices_Contains_int_int.C (slices_Contains_int_int k):=by
  intro n o r c p h g l d e
  unfold slices_Contains_int_int at c
  refine Ci 9 Tryz.func111 j j j fun a b=>?_
  refine S (G (R q 1 b j fun a b=>E (T (S (G (R q 2 b j fun a b=>?_))))));obtain ⟨s,f,c⟩:=bd c
  refine J cl_143 d b j j ((slices_Index_int_int.ok k) f d.pass0 e) j ?_;rintro a w _ i _ ⟨rfl,rfl⟩ m d b;refine R q 2 b j fun a b=>E (T (V ?_));cases c
  refine N (v:=_) b j ⟨_,_,_,j,d.nil,j,j⟩

theorem cl_75:Callable Tryz.prog 75:=⟨_,Tryz.func75,by kernel_rfl,by kernel_rfl⟩

def schema_Catalog_key.C (s:Tschema_Catalog→TTable→TRelation→(List (ByteArray × Int))→Option (Int × Tschema_Catalog × TRelation)):Prop:=∀ {d x b y r},s d x b y=some r→∀ {e c o h f u4 u5 u6 u7 t i g l m p u u29 n},Inv e c o c [.blk h [.pointer f,u4,u5,u6,u7,i_ d.limit_] 111,.blk i [.string b.Name,i_ b.Rows,.slice g b.Cols.length l,.slice m b.Key.length p,i_ b.Hide,u29] 43,.row (.slice m b.Key.length p) 3 1 b.Key.length u] e→(Pt c f 160 Tlattice_Lattice.d d.lattice_)→(Rep c x.d t)→(Sl c g l 4 (b.Cols.map TField.d))→(RL c 1 (b.Key.map di) u)→(Mp c n false D.str di y)→Calls Tryz.prog 75 #[(P h),.agg ⟨t⟩,(P i),.map n] e (Ret e c o fun G' L' v=>∃ A1_3 c1_3 e1_3,L'=[.blk h [.pointer f,u4,u5,u6,u7,i_ d.limit_] 111,.blk i [.string b.Name,i_ b.Rows,.slice g b.Cols.length l,.slice A1_3 r.2.2.Key.length c1_3,i_ b.Hide,u29] 43,.row (.slice A1_3 r.2.2.Key.length c1_3) 3 1 r.2.2.Key.length e1_3]∧v=i_ r.1∧RL G' 1 (r.2.2.Key.map di) e1_3)

theorem schema_Catalog_key.ok (k:Nat):schema_Catalog_key.C (schema_Catalog_key k):=by
  intro bh br i av r g aw n am bv bs u4 u5 u6 u7 da ao ak ap bt bw b0 u29 c0 d b2 b8 b1 ca b3
  unfold schema_Catalog_key at g
  obtain ⟨c1,c9,cy,c7,cz,c8,rfl,dc,bi,dd⟩:=TTable.inv.1 b8
  refine Ci 77 Tryz.func75 j j j fun a c=>?_
  
  refine S (G (s_box d c j j j j fun a w c4 c d=>R q 1 c j fun a c=>E (T (S (S (G (R q 1 c j fun a c=>L d c j (B q 0 j j j j) j fun a c=>R q 2 c j fun a c=>E (T ?_))))))))
  obtain ⟨bp,ae,bj⟩:=bd g
  refine X c d (fun e L a' w'=>∃ m aa ax a0 a2,bp = .go m∧n.le aa∧Env a' 77 (sl e [0,2] [])∧Inv aw n am aa [nt L 1,.blk ao [.string i.Name,i_ i.Rows,.slice ak i.Cols.length ap,.slice ax m.length a0,i_ i.Hide,u29] 43,.row (.slice ax m.length a0) 3 1 m.length a2] w'∧RL aa 1 (m.map di) a2) ?_ ?_
  rotate_left
  · rintro a w ⟨m,aa,ax,a0,a2,rfl,bm,c,d,b7⟩;have g:=Lg bj
    refine T (S (S (G (R q 3 c j fun a c=>L d c j (B q 1 j j j j) j fun a c=>R q 2 c j fun a c=>E (T ?_)))));have cm:=d.rle (xs:=m) 2 j
    obtain ⟨bq,af,bk⟩:=bd g
    refine X c d (fun e L a' w'=>∃ aj az ay a1 a3,bq = .go aj∧aa.le az∧Env a' 77 []∧Inv aw n am az [nt L 0,.blk ao [.string i.Name,i_ i.Rows,.slice ak i.Cols.length ap,.slice ay aj.length a1,i_ i.Hide,u29] 43,.row (.slice ay aj.length a1) 3 1 aj.length a3] w'∧RL az 1 (aj.map di) a3) ?_ ?_
    rotate_left
    · rintro a w ⟨aj,az,ay,a1,a3,rfl,df,c,d,b9⟩;have g:=Lg bk;refine T (S (G (R q 1 c j fun a c=>E (T (V ?_)))));cases g
      refine N (v:=_) c j ⟨_,_,_,j,d,ay,a1,a3,j,j,b9⟩
    
    refine O (Q c d (fun e L n' a' w'=>∃ i277 p ag ah al ac ai,n'=List.length p∧i277≤m.length∧m.drop i277=p∧forL (schema_Catalog_key.b0 k i bh) i277 p ag=some bq∧aa.le ah∧Env a' 77 (sl e [0,2,53] [(54,i_ (i277:Int)),(52,.slice al ag.length ac)])∧Inv aw n am ah [nt L 0,.blk ao [.string i.Name,i_ i.Rows,.slice ak i.Cols.length ap,.slice al ag.length ac,i_ i.Hide,u29] 43,.row (.slice al ag.length ac) 3 1 ag.length ai] w'∧RL ah 1 (ag.map di) ai) _ ⟨0,_,_,aa,ax,a0,a2,j,Nat.zero_le _,j,af,rf,c.kp j,d,b7⟩ ?_)
    rintro dj a w ⟨i277,p,ag,ah,al,ac,ai,rfl,ck,a5,af,a8,c,d,aq⟩;rcases p with _ | ⟨dq,p⟩
    · obtain rfl:=Fn af;have bf:=Do a5 ck;refine S (G (R q 1 c j fun a c=>E (T (S ?_))));have c:=c.tr (t:=55) j (decide_eq_false (by omega))
      refine Fa c j (Ex (Xe (Xe (Xh (T (⟨_,ah,al,ac,ai,j,a8,c.kp j,d,aq⟩))))))
    obtain ⟨dn,g,af⟩:=Fs af;obtain ⟨dh,a5,bf⟩:=Dc a5;unfold schema_Catalog_key.b0 at g;refine S (G (R q 1 c j fun a c=>E (T (S ?_))))
    have c:=c.tr (t:=55) j (decide_eq_true (by omega));refine Tr c j (K (T (S (O (S (G ?_))))));obtain ⟨dr,au,g⟩:=bd g
    obtain ⟨ba,rfl⟩:=row_ptr 2 d j j (Go au).2;obtain ⟨db,de,co,cj⟩:=Rt aq (Go au).2;obtain rfl:=rep_int.1 co
    refine L d c j (I q (Ro (Go au).1 (Go au).2 ba 1) j j j) j fun a c=>L d c j (f_loadR q 2 j cj 0 j j j j (Rl aq (Go au).2)) j fun a c=>R q 1 c j fun a c=>E (T (S (Cd mixed (by kernel_rfl) d (Y q 3 c j fun a c=>Z c j (B q 0 j j j j) j fun a c=>Y q 3 c j fun a c=>Z c j (B q 1 j j j j) j fun a c=>Y q 1 c j fun a c=>?_))))
    obtain ⟨ds,bn,g⟩:=bd g;obtain ⟨c3,dl,cs,cg,cb,b5⟩:=Sa (b1.m (bm.t a8)) (Go bn).1 (Go bn).2;obtain rfl:=TField.inv.1 cb
    refine Z c j (I q cg j j j) j fun a c=>Y q 1 c j fun a c=>Z c j (Fg q b5 3 j j j j) j fun a c=>Y q 3 c j fun a c=>Z c j (B q 1 j j j j) j fun a c=>?_
    obtain ⟨cw,cu,g⟩:=bd g
    refine Qc cl_36 c j j (fun w d=>(lattice_Lattice_Leq.ok k) cu d.pass0 (b2.m (bm.t a8))) (fun _ _ _ h=>h.2) j fun a c=>Y q 1 c j fun a c=>Qe ?_;intro w d
    refine T (Cc (b:=!cw) c j (fun bb=>?_) (fun bb=>?_));rotate_left
    · replace g:=cf bb g;refine K (xB (T (G (R q 2 c j fun a c=>E (T ?_)))));cases g;have c:=c.setI (t:=54) j (Wc bf cm)
      exact ⟨p.length,Nat.lt_succ_self _,i277 + 1,p,_,ah,(p_ ba),ac,ai,j,bf,a5,af,a8,c.kp j,d,aq⟩
    replace g:=ct bb g;refine S (G (R q 1 c j fun a c=>E (T (V (Xb (Xr (Xr (Xb (Xr (Xr ?_))))))))));cases g;obtain rfl:=Nr af;have g:=Le bk;cases g
    refine N (v:=_) c j ⟨_,_,_,j,d,(p_ ba),ac,ai,j,j,aq⟩
  
  refine O (Q c d (fun e L n' a' w'=>∃ i313 s l o z ab ad,n'=List.length s∧i313≤br.Key.length∧br.Key.drop i313=s∧forL (schema_Catalog_key.b1 k av bh i) i313 s l=some bp∧n.le o∧Env a' 77 (sl e [0,2,3,16,17] [(18,i_ (i313:Int))])∧Inv aw n am o [nt L 1,.blk ao [.string i.Name,i_ i.Rows,.slice ak i.Cols.length ap,.slice z l.length ab,i_ i.Hide,u29] 43,.row (.slice z l.length ab) 3 1 l.length ad] w'∧RL o 1 (l.map di) ad) _ ⟨0,_,_,n,bt,bw,b0,j,Nat.zero_le _,j,ae,rf,c.kp j,(d.dropN 1 j),ca⟩ ?_)
  rintro dk a w ⟨i313,s,l,o,z,ab,ad,rfl,cl,a6,ae,a7,c,d,a4⟩;rcases s with _ | ⟨a9,s⟩
  · obtain rfl:=Fn ae;have bg:=Do a6 cl;refine S (G (R q 1 c j fun a c=>E (T (S ?_))));have c:=c.tr (t:=19) j (decide_eq_false (by omega))
    refine Fa c j (Ex (Xe (Xe (Xh (T (⟨_,o,z,ab,ad,j,a7,c.kp j,d,a4⟩))))))
  obtain ⟨dp,g,ae⟩:=Fs ae;obtain ⟨cr,a6,bg⟩:=Dc a6;unfold schema_Catalog_key.b1 at g;refine S (G (R q 1 c j fun a c=>E (T (S ?_))))
  have c:=c.tr (t:=19) j (decide_eq_true (by omega));refine Tr c j (K (T (S (O (S (G ?_))))))
  obtain ⟨c5,dm,cs,ch,cc,b6⟩:=Sa (bi.m a7) (Int.natCast_nonneg _) (natIdx cr);obtain rfl:=rep_str.1 cc
  refine L d c j (I q ch j j j) j fun a c=>L d c j (Fg q b6 0 j j j j) j fun a c=>R q 1 c j fun a c=>E (T (S (G (R q 2 c j fun a c=>?_))))
  obtain ⟨bx,u329,cn,cq,cp⟩:=f_lookG key_str (b3.m a7) um_109 uk_9 true c (L:=[.blk bv [.pointer bs,u4,u5,u6,u7,i_ bh.limit_] 111,.blk ao [.string i.Name,i_ i.Rows,.slice ak i.Cols.length ap,.slice z l.length ab,i_ i.Hide,u29] 43,.row (.slice z l.length ab) 3 1 l.length ad]) (x:=.tmp 23) (y:=.tmp 24) j j z_3 (rep_int.2 j) j
  obtain rfl:bx=[u329]:=cq;obtain rfl:=rep1_int.1 cn;refine L d c j (cp _ _ _) j fun a c=>R q 5 c j fun a c=>E (T (S (S ?_)));obtain ⟨bo,g,cd⟩:=bd g
  refine X c d (fun e L a' w'=>∃ an,o.le an∧Env a' 77 (sl e [0,2,3,11,16,17,18] [(37,.bool bo)])∧Inv aw n am an L w') ?_ ?_
  · refine G (R q 3 c j fun a c=>?_);rcases Bo (!((mget av a9).isSome)) with ar | ar
    · replace g:=ct ar g;have c:=c.tr (t:=30) j ar;refine R q 7 c j fun a c=>E (T ?_);cases g;exact ⟨o,rf,c.kp j,d⟩
    replace g:=cf ar g;have c:=c.tr (t:=30) j ar;refine R q 3 c j fun a c=>L d c j (B q 1 j j j j) j fun a c=>R q 1 c j fun a c=>?_
    obtain ⟨cx,cv,g⟩:=bd g
    refine Cl (S:=fun _ L' u=>L'=[]∧u = .bool cx) cl_111 d c j j (by obtain ⟨c2,dg,d,b4⟩:=(d.front 2).giveR (xs:=l.map di) (by simp) a4;exact ⟨_,(slices_Contains_int_int.ok k) cv d.pass0 b4⟩) (fun _ _ _ h=>h.2) j ?_
    intro a w d c;refine R q 1 c j fun a c=>E (T ?_);cases g;exact ⟨o,rf,c.kp j,d⟩
  rintro a w ⟨an,be,c,d⟩;have g:=cd;refine T (Cc (b:=bo) c j (fun bc=>?_) (fun bc=>?_))
  · replace g:=ct bc g;refine S (G (R q 1 c j fun a c=>E (T (V (Xr (Xb (Xr (Xr (Xb (Xr (Xr ?_)))))))))));cases g;obtain rfl:=Nr ae;have g:=Le bj;cases g
    refine N (v:=_) c j ⟨_,_,_,j,d,z,ab,ad,j,j,(a4.m be)⟩
  replace g:=cf bc g
  refine K (T (G (R q 4 c j fun a c=>L d c j (B q 1 j j j j) j fun a c=>R q 1 c j fun a c=>Bs ai_40 d c j j j j j fun a w c6 c d=>?_)))
  have bl:RL an 1 ([((mget av a9).getD (0:Int))].map di) _:=(Rc (rep_int.2 j) j Rn);obtain ⟨_,ci,g⟩:=bd g
  refine Ao (f:=di) (xs:=l) (ys:=[((mget av a9).getD (0:Int))]) ai_40 3 0 d c j j j bl j j (Ll ci) j fun a w bu bz c d=>?_
  have ce:=Ra (a4.m be) bl
  refine R q 2 c j fun a c=>W q 2 d c j j j j j j j j j j fun a w c d=>E (xB (T (G (R q 2 c j fun a c=>E (T ?_)))));cases g
  have c:=c.setI (t:=18) j (Wc bg (Ln bi))
  exact ⟨s.length,Nat.lt_succ_self _,i313 + 1,s,_,an,bu,bz,(ad ++ [i_ ((mget av a9).getD (0:Int))]),j,bg,a6,ae,(a7.t be),c.kp j,(d.dropN 1 j),ce⟩

theorem cl_54:Callable Tryz.prog 54:=⟨_,Tryz.func54,by kernel_rfl,by kernel_rfl⟩

def slices_Clone_api_Expr_api_Expr.C (s:(List TExpr)→Option (List TExpr)):Prop:=∀ {d r},s d=some r→∀ {c b f h},Inv c b [] b [] c→(Sl b f h 6 (d.map TExpr.d))→Calls Tryz.prog 54 #[.slice f d.length h] c (Ret c b [] fun G' L' v=>∃ e g i,L'=[.row (.slice e r.length g) 145 6 r.length i]∧v = .slice e r.length g∧RL G' 6 (r.map TExpr.d) i)

theorem slices_Clone_api_Expr_api_Expr.ok (k:Nat):slices_Clone_api_Expr_api_Expr.C (slices_Clone_api_Expr_api_Expr k):=by
  intro u r d aa e h z c g
  unfold slices_Clone_api_Expr_api_Expr at d
  refine Ci 8 Tryz.func54 j j j fun a b=>?_
  refine S (G (R q 1 b j fun a b=>E (T (S (S (G (R q 1 b j fun a b=>?_)))))));rcases h with _ | x
  · obtain rfl:=(g).nil0;have d:some []=some r:=d;cases d
    refine L c b j (f_slnil q j j j j) j fun a b=>E (T (Tr b j (S (G (R q 1 b j fun a b=>E (T ?_))))));have c:=c.nilrow 145 6
    have s:RL e 6 (([]:List TExpr).map TExpr.d) []:=Rn;refine V (Xr (N (v:=_) b j ⟨_,_,_,j,c,none,0,[],j,j,s⟩))
  refine L c b j (f_slnil q j j j j) j fun a b=>E (T (Fa b j (K (T (S (G (Bs ai_41 c b j j j j j fun a w y b c=>?_)))))))
  have n:RL e 6 (([]:List TExpr).map TExpr.d) []:=Rn;refine R q 1 b j fun a b=>?_;obtain ⟨_,t,d⟩:=bd d
  refine s_appG (f:=TExpr.d) (xs:=([]:List TExpr)) (ys:=u) ai_41 0 c b j j g j j (Ll t) j fun a w i l m b p c=>?_;have o:=Ra n p
  refine R q 1 b j fun a b=>E (T (V ?_));cases d;refine N (v:=_) b j ⟨_,_,_,j,c,i,l,([] ++ m),j,j,o⟩

theorem cl_144:Callable Tryz.prog 144:=⟨_,Tryz.func144,by kernel_rfl,by kernel_rfl⟩

def schema_total.C (s:ByteArray→Option Bool):Prop:=∀ {d r},s d=some r→∀ {b c },Inv b c [] c [] b→Calls Tryz.prog 144 #[.string d] b (Ret b c [] fun G' L' v=>L'=[]∧v = .bool r)

theorem schema_total.ok (k:Nat):schema_total.C (schema_total k):=by
  intro i r c m g  f
  unfold schema_total at c
  refine Ci 14 Tryz.func144 j j j fun a d=>?_
  
  refine S (G (R q 1 d j fun a d=>E (T (S (S (G (R q 1 d j fun a d=>E (T (X d f (fun e L a' w'=>∃ ad,schema_total.j0 k ad=some r∧∃ n,g.le n∧Env a' 14 []∧Inv m g [] n L w') ?_ ?_)))))))))
  rotate_left
  · rintro a w ⟨ad,c,n,aj,d,f⟩;unfold schema_total.j0 at c;refine T (S (G (R q 1 d j fun a d=>E (T (V ?_)))));cases c
    refine N (v:=_) d j ⟨_,_,_,j,f.nil,j,j⟩
  refine O (S (X d f (fun e L a' w'=>∃ ae,schema_total.j1 k ae=some r∧∃ o,g.le o∧Env a' 14 []∧Inv m g [] o L w') ?_ ?_));rotate_left
  · rintro a w ⟨ae,c,o,ak,d,f⟩;unfold schema_total.j1 at c;refine T (S (S (G (R q 1 d j fun a d=>E (T (V (Xr (Xb (Xr (Xr ?_))))))))));cases c
    refine N (v:=_) d j ⟨_,_,_,j,f.nil,j,j⟩
  refine O (O (S (S (S (S (G (R q 2 d j fun a d=>E (T ?_))))))));obtain ⟨af,c,ai⟩:=bd c
  refine X d f (fun e L a' w'=>∃ h,g.le h∧Env a' 14 (sl e [3] [(4,.bool af)])∧Inv m g [] h L w') ?_ ?_
  · refine Cc (b:=decide (i=(⟨#[111,114]⟩:ByteArray))) d j (fun aa=>?_) (fun aa=>?_)
    · replace c:=ct aa c;refine K (T ?_);cases c;exact ⟨g,rf,d.kp j,f⟩
    replace c:=cf aa c;refine S (G (R q 2 d j fun a d=>E (T (Cc (b:=decide (i=(⟨#[97,110,100]⟩:ByteArray))) d j (fun z=>?_) (fun z=>?_)))))
    · replace c:=ct z c;refine K (T ?_);cases c;exact ⟨g,rf,d.kp j,f⟩
    replace c:=cf z c;refine S (G (R q 2 d j fun a d=>E (T (Cc (b:=decide (i=(⟨#[61]⟩:ByteArray))) d j (fun y=>?_) (fun y=>?_)))))
    · replace c:=ct y c;refine K (T ?_);cases c;exact ⟨g,rf,d.kp j,f⟩
    replace c:=cf y c;refine G (R q 2 d j fun a d=>E (T ?_));cases c;exact ⟨g,rf,d.kp j,f⟩
  rintro a w ⟨h,ab,d,f⟩;have c:=ai;refine T (Cc (b:=af) d j (fun x=>?_) (fun x=>?_))
  · replace c:=ct x c;refine Ex (Xe (Xe (Xh (xB (T (⟨_,c,h,ab,d.kp j,f⟩))))))
  replace c:=cf x c;refine K (T (S (S (G (R q 2 d j fun a d=>E (T ?_))))));obtain ⟨ag,c,ah⟩:=bd c
  refine X d f (fun e L a' w'=>∃ l,h.le l∧Env a' 14 [(9,.bool ag)]∧Inv m g [] l L w') ?_ ?_;rotate_left
  · rintro a w ⟨l,ac,d,f⟩;have c:=ah;refine T (Cc (b:=ag) d j (fun p=>?_) (fun p=>?_))
    · replace c:=ct p c;refine Ex (Xe (Xm j (Xh (T (⟨_,c,l,(ab.t ac),d.kp j,f⟩)))))
    replace c:=cf p c;refine K (T (Ex (Xm j (Xm j (Xe (Xe (Xh (T (⟨_,c,l,(ab.t ac),d.kp j,f⟩)))))))))
  refine Cc (b:=decide (i=(⟨#[60]⟩:ByteArray))) d j (fun u=>?_) (fun u=>?_)
  · replace c:=ct u c;refine K (T ?_);cases c;exact ⟨h,rf,d.kp j,f⟩
  replace c:=cf u c;refine S (G (R q 2 d j fun a d=>E (T (Cc (b:=decide (i=(⟨#[60,61]⟩:ByteArray))) d j (fun t=>?_) (fun t=>?_)))))
  · replace c:=ct t c;refine K (T ?_);cases c;exact ⟨h,rf,d.kp j,f⟩
  replace c:=cf t c;refine S (G (R q 2 d j fun a d=>E (T (Cc (b:=decide (i=(⟨#[62]⟩:ByteArray))) d j (fun s=>?_) (fun s=>?_)))))
  · replace c:=ct s c;refine K (T ?_);cases c;exact ⟨h,rf,d.kp j,f⟩
  replace c:=cf s c;refine G (R q 2 d j fun a d=>E (T ?_));cases c;exact ⟨h,rf,d.kp j,f⟩

theorem cl_112:Callable Tryz.prog 112:=⟨_,Tryz.func112,by kernel_rfl,by kernel_rfl⟩

def schema_predicate_shape.C (s:Tschema_predicate→TExpr→Int→Option (Bool × Tschema_predicate)):Prop:=∀ {b n o r},s b n o=some r→∀ {d c h f e u4 g i m l},Inv d c h c [.blk f [.string b.table_,.map e,u4,.slice g b.used_.length i] 206,.row (.slice g b.used_.length i) 3 1 b.used_.length m] d→(Mp c e false D.str di b.cols_)→(RL c 1 (b.used_.map di) m)→(Rep c n.d l)→Calls Tryz.prog 112 #[(P f),.agg ⟨l⟩,i_ o] d (Ret d c h fun G' L' v=>∃ A0_3 c0_3 e0_3,L'=[.blk f [.string b.table_,.map e,u4,.slice A0_3 r.2.used_.length c0_3] 206,.row (.slice A0_3 r.2.used_.length c0_3) 3 1 r.2.used_.length e0_3]∧v = .bool r.1∧RL G' 1 (r.2.used_.map di) e0_3)
end Go.Proofs.YtknhbphhdfknaaaGreatDoor
