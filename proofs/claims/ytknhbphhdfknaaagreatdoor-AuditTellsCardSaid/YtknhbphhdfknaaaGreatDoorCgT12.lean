/- The contracts: what the machine does at a call is what the plain function says. Written by mk.py. -/
import Derived.Test.YtknhbphhdfknaaaGreatDoorCgT3
import Derived.Test.YtknhbphhdfknaaaGreatDoorCgT6
import Derived.Test.YtknhbphhdfknaaaGreatDoorCgT10
import Derived.Test.YtknhbphhdfknaaaGreatDoorCgT11
set_option linter.unusedVariables false
set_option linter.unusedSimpArgs false
set_option maxRecDepth 100000
namespace Go.Proofs.YtknhbphhdfknaaaGreatDoor
open Go.RowKit
theorem audit_Hears.ok (k:Nat):audit_Hears.C (audit_Hears k):=by
  intro cm a6 r h ap ad ay g au
  unfold audit_Hears at h
  refine Ci 38 Tryz.func16 j j j fun a c=>?_
  refine S (G (R q 1 c j fun a c=>E (T (S (G (R q 1 c j fun a c=>E (T (S (G (R q 2 c j fun a c=>s_inl Tryz.func32 j cl_32 c j j j ?_))))))))))
  have bh:=c;have c:Env _ 20 [(0,.pointer ay),(1,.string a6)]:=Env.start ⟨[.pointer ay,.string a6]⟩ 18
  refine S (G (R q 2 c j fun a c=>E (T (S (G (R q 2 c j fun a c=>?_))))));obtain ⟨aq,b5,h⟩:=bd h
  refine J cl_56 g c j j ((schema_Catalog_Principal.ok k) b5 g.pass0 au) j ?_;rintro a w _ cc _ ⟨rfl,rfl⟩ a3 g c
  refine R q 3 c j fun a c=>A g c j z_3 j j fun a w ag c g=>W q 0 g c j j j j j j j j j j fun a w c g=>R q 1 c j fun a c=>E (T (S (G (R q 1 c j fun a c=>?_))))
  obtain ⟨b6,b2,h⟩:=bd h;refine J cl_35 g c j j ((schema_Catalog_Lattice.ok k) b2 g.pass0 (au.m a3)) j ?_;rintro a w _ b9 _ ⟨rfl,b7,rfl,bc⟩ bv g c
  refine L g c j (f_mkI up_104 (fun _ e_=>by cases e_) j) j fun a c=>A g c j z_151 j j fun a w ah c g=>W q 0 g c j j j j j j j j j j fun a w c g=>E (T (S (G (L g c j (f_mkfn j) j fun a c=>R q 3 c j fun a c=>E (T (V (N (v:=.tuple ⟨[.func (.func 57) #[] ⟨[(P ah),(P ag)]⟩,.bool aq.2]⟩) c j ⟨_,j,?_⟩)))))))
  have c:=bh.put (d:=13) j (.tuple ⟨[.func (.func 57) #[] ⟨[(P ah),(P ag)]⟩,.bool aq.2]⟩)
  refine R q 5 c j fun a c=>E (T (S (S (G (R q 1 c j fun a c=>?_)))));obtain ⟨a7,b3,h⟩:=bd h
  refine J cl_33 g c j j ((schema_Catalog_Channels.ok k) b3 g.pass0 (au.m (a3.t bv))) j ?_;rintro a w _ ae _ ⟨rfl,b8,ch,rfl,a0⟩ bw g c
  refine R q 2 c j fun a c=>E (T ?_);have g:=g.nilrow 9 1;have bl:RL ae 1 (([]:List ByteArray).map D.str) []:=Rn;obtain ⟨a5,u,bk⟩:=bd h
  refine X c g (fun e L a' w'=>∃ n af ab ai ar,a5 = .go n∧ae.le af∧Env a' 38 [(5,.slice ab n.length ai)]∧Inv ap ad [] af [.row (.slice ab n.length ai) 9 1 n.length ar,nt L 1,nt L 2] w'∧RL af 1 (n.map D.str) ar) ?_ ?_
  rotate_left
  · rintro a w ⟨n,af,ab,ai,ar,rfl,ci,c,g,bm⟩;have h:=Lg bk;refine T (S (G (R q 2 c j fun a c=>E (T ?_))))
    obtain ⟨ca,cj,g,be⟩:=(g.front 0).giveR (xs:=n.map D.str) (by simp) bm;refine V ?_;cases h;refine N (v:=_) c j ⟨_,_,_,j,g.nil,j,ab,ai,j,be⟩
  
  refine O (Q c g (fun e L n' a' w'=>∃ i478 l m i x z s,n'=List.length l∧i478≤a7.length∧a7.drop i478=l∧forL (audit_Hears.b0 k aq b6) i478 l m=some a5∧ae.le i∧Env a' 38 (sl e [6,7,17,18] [(19,i_ (i478:Int)),(5,.slice x m.length z)])∧Inv ap ad [] i [.row (.slice x m.length z) 9 1 m.length s,nt L 1,nt L 2] w'∧RL i 1 (m.map D.str) s) _ ⟨0,_,_,ae,none,0,[],j,Nat.zero_le _,j,u,rf,c.kp j,g,bl⟩ ?_)
  rintro ck a w ⟨i478,l,m,i,x,z,s,rfl,b0,al,u,am,c,g,av⟩;rcases l with _ | ⟨o,l⟩
  · obtain rfl:=Fn u;have ax:=Do al b0;refine S (G (R q 1 c j fun a c=>E (T (S ?_))));have c:=c.tr (t:=20) j (decide_eq_false (by omega))
    refine Fa c j (Ex (Xe (Xe (Xh (T (⟨_,i,x,z,s,j,am,c.kp j,g,av⟩))))))
  obtain ⟨cn,h,u⟩:=Fs u;obtain ⟨b1,al,ax⟩:=Dc al;unfold audit_Hears.b0 at h;refine S (G (R q 1 c j fun a c=>E (T (S ?_))))
  have c:=c.tr (t:=20) j (decide_eq_true (by omega));refine Tr c j (K (T (S ?_)));obtain ⟨ao,h,bo⟩:=bd h
  refine X c g (fun e L a' w'=>∃ y ac aj ak,i.le y∧Env a' 38 (sl e [6,7,17,18,19] [(5,.slice ac ao.length aj)])∧Inv ap ad [] y [.row (.slice ac ao.length aj) 9 1 ao.length ak,nt L 1,nt L 2] w'∧RL y 1 (ao.map D.str) ak) ?_ ?_
  rotate_left
  · rintro a w ⟨y,ac,aj,ak,bx,c,g,bn⟩;have h:=bo;refine T (G (R q 2 c j fun a c=>E (T ?_)));cases h;have c:=c.setI (t:=19) j (Wc ax (Ln a0))
    exact ⟨l.length,Nat.lt_succ_self _,i478 + 1,l,_,y,ac,aj,ak,j,ax,al,u,(am.t bx),c.kp j,g,bn⟩
  refine O (S (G ?_));obtain ⟨cd,cl,cs,bt,bp,bg⟩:=Sa (a0.m am) (Int.natCast_nonneg _) (natIdx b1);obtain rfl:=TNamed.inv.1 bp
  refine L g c j (I q bt j j j) j fun a c=>L g c j (Fg q bg 0 j j j j) j fun a c=>A g c j z_56 j j fun a w ce c g=>W q 0 g c j j j j j j j j j j fun a w c g=>E (T (S ?_))
  obtain ⟨a4,h,bq⟩:=bd h;refine X c g (fun e L a' w'=>∃ p,i.le p∧Env a' 38 (sl e [5,6,7,9,17,18,19] [(30,.bool a4)])∧Inv ap ad [] p L w') ?_ ?_;rotate_left
  · rintro a w ⟨p,an,c,g⟩;have h:=bq;refine T (Cc (b:=a4) c j (fun aw=>?_) (fun aw=>?_));rotate_left
    · replace h:=cf aw h;refine K (xB (T ?_));cases h;exact ⟨p,x,z,s,an,c.kp j,(g.dropN 1 j),(av.m an)⟩
    replace h:=ct aw h;refine G (R q 2 c j fun a c=>L g c j (B q 0 j j j j) j fun a c=>Bs ai_22 g c j j j j j fun a w cg c g=>?_)
    have a1:RL p 1 ([o.Name].map D.str) _:=(Rc (rep_str.2 j) j Rn);obtain ⟨_,bu,h⟩:=bd h
    refine Ao (f:=D.str) (xs:=m) (ys:=[o.Name]) ai_22 2 0 g c j j j a1 j j (Ll bu) j fun a w a9 bb c g=>?_;have br:=Ra (av.m an) a1
    refine R q 1 c j fun a c=>E (xB (T ?_));cases h;exact ⟨p,a9,bb,(s ++ [.string o.Name]),an,c.kp j,(g.dropN 2 j),br⟩
  refine G (R q 2 c j fun a c=>?_);rcases Bo aq.2 with aa | aa;rotate_left
  · replace h:=cf aa h;have c:=c.tr (t:=24) j aa;refine R q 6 c j fun a c=>E (T ?_);cases h;exact ⟨i,rf,c.kp j,g⟩
  replace h:=ct aa h;have c:=c.tr (t:=24) j aa
  refine R q 2 c j fun a c=>L g c j (B q 0 j j j j) j fun a c=>Bs ai_40 g c j j j j j fun a w az c g=>?_
  have bs:RL i 1 ([o.Level].map di) _:=(Rc (rep_int.2 j) j Rn);refine s_inl Tryz.func57 j cl_57 c j j j ?_;have bi:=c
  have c:Env _ 9 [(0,.slice (p_ az) ([o.Level]).length 1),(1,(P ah)),(2,(P ag))]:=Env.start ⟨[.slice (p_ az) ([o.Level]).length 1,(P ah),(P ag)]⟩ 6
  refine S (G (R q 1 c j fun a c=>E (T (S (G (R q 1 c j fun a c=>L g c j (f_mkfn j) j fun a c=>?_))))))
  obtain ⟨cb,a2,g,bf⟩:=(g.front 0).giveR (xs:=([o.Level]).map di) (by simp) bs;have g:=g.pick [2,3,0,1] (by decide) j;obtain ⟨a8,b4,h⟩:=bd h
  refine M 2 cl_309 g c j j (fun bj=>(slices_ContainsFunc_int_int_audit_sight_1_1.ok k) b4 bj bf (bc.m ((bw.t am).t a2))) j ?_;rintro a w _ ba _ ⟨rfl,rfl⟩ bz g c
  refine R q 2 c j fun a c=>E (T (V (N (v:=.bool (!a8.1)) c j ⟨_,j,?_⟩)));have c:=bi.put (d:=29) j (.bool (!a8.1));refine R q 1 c j fun a c=>E (T ?_)
  cases h;exact ⟨ba,(a2.t bz),c.kp j,(g.pick [2,3,0,1] (by decide) j)⟩

theorem cl_17:Callable Tryz.prog 17:=⟨_,Tryz.func17,by kernel_rfl,by kernel_rfl⟩

def audit_Who.C (s:(Option Tschema_Catalog)→Int→Option (List ByteArray)):Prop:=∀ {g h r},s g h=some r→∀ {c b e},Inv c b [] b [] c→(Pt b e 111 Tschema_Catalog.d g)→Calls Tryz.prog 17 #[.pointer e,i_ h] c (Ret c b [] fun G' L' v=>L'=[]∧∃ d f,v = .slice d r.length f∧Sl G' d f 1 (r.map D.str))

theorem audit_Who.ok (k:Nat):audit_Who.C (audit_Who k):=by
  intro bk bl r g ap aj bn d au
  unfold audit_Who at g
  refine Ci 28 Tryz.func17 j j j fun a c=>?_
  refine S (G (R q 1 c j fun a c=>E (T (S (G (R q 1 c j fun a c=>E (T (S (S (G (R q 1 c j fun a c=>?_)))))))))));obtain ⟨ax,bj,g⟩:=bd g
  refine J cl_34 d c j j ((schema_Catalog_Principals.ok k) bj d.pass0 au) j ?_;rintro a w _ aa _ ⟨rfl,bo,bv,rfl,ar⟩ be d c;refine R q 2 c j fun a c=>E (T ?_)
  have d:=d.nilrow 9 1;have a4:RL aa 1 (([]:List ByteArray).map D.str) []:=Rn;obtain ⟨aw,o,a3⟩:=bd g
  refine X c d (fun e L a' w'=>∃ l ab y ac al,aw = .go l∧aa.le ab∧Env a' 28 [(5,.slice y l.length ac)]∧Inv ap aj [] ab [.row (.slice y l.length ac) 9 1 l.length al] w'∧RL ab 1 (l.map D.str) al) ?_ ?_
  rotate_left
  · rintro a w ⟨l,ab,y,ac,al,rfl,bw,c,d,a5⟩;have g:=Lg a3;refine T (S (G (R q 2 c j fun a c=>E (T ?_))))
    obtain ⟨bq,bx,d,a0⟩:=(d.front 0).giveR (xs:=l.map D.str) (by simp) a5;refine V ?_;cases g;refine N (v:=_) c j ⟨_,_,_,j,d.nil,j,y,ac,j,a0⟩
  
  refine O (Q c d (fun e L n' a' w'=>∃ i400 h i m p u n,n'=List.length h∧i400≤ax.length∧ax.drop i400=h∧forL (audit_Who.b0 k bk bl) i400 h i=some aw∧aa.le m∧Env a' 28 (sl e [0,1,9,10] [(11,i_ (i400:Int)),(5,.slice p i.length u)])∧Inv ap aj [] m [.row (.slice p i.length u) 9 1 i.length n] w'∧RL m 1 (i.map D.str) n) _ ⟨0,_,_,aa,none,0,[],j,Nat.zero_le _,j,o,rf,c.kp j,d,a4⟩ ?_)
  rintro bz a w ⟨i400,h,i,m,p,u,n,rfl,bf,af,o,ag,c,d,am⟩;rcases h with _ | ⟨aq,h⟩
  · obtain rfl:=Fn o;have ao:=Do af bf;refine S (G (R q 1 c j fun a c=>E (T (S ?_))));have c:=c.tr (t:=12) j (decide_eq_false (by omega))
    refine Fa c j (Ex (Xe (Xe (Xh (T (⟨_,m,p,u,n,j,ag,c.kp j,d,am⟩))))))
  obtain ⟨b1,g,o⟩:=Fs o;obtain ⟨bg,af,ao⟩:=Dc af;unfold audit_Who.b0 at g;refine S (G (R q 1 c j fun a c=>E (T (S ?_))))
  have c:=c.tr (t:=12) j (decide_eq_true (by omega));refine Tr c j (K (T (S ?_)));obtain ⟨ai,g,a7⟩:=bd g
  refine X c d (fun e L a' w'=>∃ s z ad ae,m.le s∧Env a' 28 (sl e [0,1,9,10,11] [(5,.slice z ai.length ad)])∧Inv ap aj [] s [.row (.slice z ai.length ad) 9 1 ai.length ae] w'∧RL s 1 (ai.map D.str) ae) ?_ ?_
  rotate_left
  · rintro a w ⟨s,z,ad,ae,bc,c,d,a6⟩;have g:=a7;refine T (G (R q 2 c j fun a c=>E (T ?_)));cases g;have c:=c.setI (t:=11) j (Wc ao (Ln ar))
    exact ⟨h.length,Nat.lt_succ_self _,i400 + 1,h,_,s,z,ad,ae,j,ao,af,o,(ag.t bc),c.kp j,d,a6⟩
  refine O (S (G ?_));obtain ⟨bs,b0,cs,ba,a8,a2⟩:=Sa (ar.m ag) (Int.natCast_nonneg _) (natIdx bg);obtain rfl:=TNamed.inv.1 a8
  refine L d c j (I q ba j j j) j fun a c=>L d c j (Fg q a2 0 j j j j) j fun a c=>A d c j z_56 j j fun a w bt c d=>W q 0 d c j j j j j j j j j j fun a w c d=>E (T (S (Mx [0] [5] (.step 0 0 (.step 2 0 (.step 3 0 (.step 4 1 (.step 1 2 (.step 5 3 .nil)))))) mixed (mixF_all (by kernel_rfl)) d (by decide) j fun w d hS=>H q 3 c j fun a c=>Dd hS c j j (Rw fun _=>(B q 0 j j j j)) j fun a c=>Df j ?_)))
  obtain ⟨b2,bh,g⟩:=bd g;refine J cl_35 d c j j ((schema_Catalog_Lattice.ok k) bh d.pass0 (au.m (be.t ag))) j ?_;rintro a w _ br _ ⟨rfl,bp,rfl,a1⟩ x d c
  refine De (d.sw [0] (by decide) j x) fun hS=>Dl j ?_;obtain ⟨bm,bi,g⟩:=bd g;refine J cl_36 d c j j ((lattice_Lattice_Leq.ok k) bi d.pass0 a1) j ?_
  rintro a w _ ak _ ⟨rfl,rfl⟩ ah d c;refine Dn (Dz (T (Cc (b:=bm) c j (fun an=>?_) (fun an=>?_))));rotate_left
  · replace g:=cf an g;refine K (xB (T ?_));cases g;exact ⟨ak,p,u,n,(x.t ah),c.kp j,(d.dropN 1 j),(am.m (x.t ah))⟩
  replace g:=ct an g;refine G (R q 2 c j fun a c=>L d c j (B q 0 j j j j) j fun a c=>Bs ai_22 d c j j j j j fun a w bu c d=>?_)
  have av:RL ak 1 ([aq.Name].map D.str) _:=(Rc (rep_str.2 j) j Rn);obtain ⟨_,bb,g⟩:=bd g
  refine Ao (f:=D.str) (xs:=i) (ys:=[aq.Name]) ai_22 2 0 d c j j j av j j (Ll bb) j fun a w ay az c d=>?_;have a9:=Ra (am.m (x.t ah)) av
  refine R q 1 c j fun a c=>E (xB (T ?_));cases g;exact ⟨ak,ay,az,(n ++ [.string aq.Name]),(x.t ah),c.kp j,(d.dropN 2 j),a9⟩

theorem cl_4:Callable Tryz.prog 4:=⟨_,Tryz.func4,by kernel_rfl,by kernel_rfl⟩

def law22_AuditTells.C (s:TSchema→ByteArray→Int→Option Bool):Prop:=∀ {e f g r},s e f g=some r→∀ {c b d},Inv c b [] b [] c→(Rep b e.d d)→Calls Tryz.prog 4 #[.agg ⟨d⟩,.string f,i_ g] c (Ret c b [] fun G' L' v=>L'=[]∧v = .bool r)

theorem law22_AuditTells.ok (k:Nat):law22_AuditTells.C (law22_AuditTells k):=by
  intro jz j0 hp r g m l i9 d fs
  unfold law22_AuditTells at g
  obtain ⟨em,ez,er,e3,et,e4,en,ex,eo,ey,rfl,e7,fe,ff,e5,e6⟩:=TSchema.inv.1 fs
  refine Ci 185 Tryz.func4 j j j fun a c=>?_
  refine S (G (s_box d c j j j j fun a w id c d=>R q 1 c j fun a c=>E (T (S (G (L d c j (B q 0 j j j j) j fun a c=>?_))))))
  obtain ⟨d1,hj,g⟩:=bd g;refine J cl_5 d c j j ((law09_Both.ok k) hj d.pass0 (TSchema.inv.2 ⟨em,ez,er,e3,et,e4,en,ex,eo,ey,j,e7,fe,ff,e5,e6⟩)) j ?_
  rintro a w _ ib _ ⟨rfl,hx,h1,rfl,cl,d6⟩ jl d c
  refine R q 5 c j fun a c=>E (T (S (S (G (R q 1 c j fun a c=>L d c j (f_pnil up_27 cl j j) j fun a c=>E (T (Cc (b:=d1.1.isNone) c j (fun dm=>?_) (fun dm=>?_))))))))
  · replace g:=ct dm g;refine S (G ?_);obtain ⟨kc,hm,g⟩:=bd g;refine J cl_11 d c j j ((law22_alive.ok kAlive) hm d.pass0 ) j ?_;rintro a w _ ic _ ⟨rfl,rfl⟩ jm d c
    refine R q 1 c j fun a c=>E (T (V (Xr ?_)));cases g;refine N (v:=_) c j ⟨_,_,_,j,d.nil,j,j⟩
  replace g:=cf dm g;refine K (T (S (G (R q 1 c j fun a c=>?_))));rcases (d6).cases with ⟨dv,rfl⟩ | ⟨s,it,cs,dv,rfl,gi,p⟩
  · cases op_n dv g
  replace g:=op_s dv g;obtain ⟨h5,h6,i6,h7,i7,h8,i8,rfl,db,cm,d7,dc⟩:=Tref08_Catalog.inv.1 gi
  refine R q 2 c j fun a c=>L d c j (Fg q p 3 j j j j) j fun a c=>R q 1 c j fun a c=>?_;obtain ⟨b1,hn,g⟩:=bd g
  refine J cl_12 d c j j ((ref08_Find.ok k) hn d.pass0 dc) j ?_;rintro a w _ b9 _ ⟨rfl,rfl⟩ i d c
  refine R q 5 c j fun a c=>E (T (S (G (R q 1 c j fun a c=>E (T (S (S (G (R q 3 c j fun a c=>L d c j (Fg q (p.m i) 1 j j j j) j fun a c=>R q 2 c j fun a c=>E (T ?_))))))))))
  have d:=d.nilrow 54 2;have fr:RL b9 2 (([]:List TGrant).map TGrant.d) []:=Rn;obtain ⟨ef,a0,fn⟩:=bd g
  refine X c d (fun e L a' w'=>∃ am ac b2 ca cg,ef = .go am∧b9.le ac∧Env a' 185 (sl e [1,2,7,8,9,10] [(11,.slice b2 am.length ca)])∧Inv m l [] ac [.row (.slice b2 am.length ca) 54 2 am.length cg] w'∧RL ac 2 (am.map TGrant.d) cg) ?_ ?_
  ·
    refine O (Q c d (fun e L n' a' w'=>∃ i3906 aj a5 ab a9 bj bo,n'=List.length aj∧i3906≤s.Tables.length∧s.Tables.drop i3906=aj∧forL (law22_AuditTells.b3 k b1 d1 s) i3906 aj a5=some ef∧b9.le ab∧Env a' 185 (sl e [1,2,7,8,9,10,43] [(44,i_ (i3906:Int)),(11,.slice a9 a5.length bj)])∧Inv m l [] ab [.row (.slice a9 a5.length bj) 54 2 a5.length bo] w'∧RL ab 2 (a5.map TGrant.d) bo) _ ⟨0,_,_,b9,none,0,[],j,Nat.zero_le _,j,a0,rf,c.kp j,(d.pick [0] (by decide) j),fr⟩ ?_)
    rintro jq a w ⟨i3906,aj,a5,ab,a9,bj,bo,rfl,g4,cr,a0,n,c,d,d9⟩;rcases aj with _ | ⟨a8,aj⟩
    · obtain rfl:=Fn a0;have dt:=Do cr g4;refine S (G (R q 1 c j fun a c=>E (T (S ?_))));have c:=c.tr (t:=45) j (decide_eq_false (by omega))
      refine Fa c j (Ex (Xe (Xe (Xh (T (⟨_,ab,a9,bj,bo,j,n,c.kp j,d,d9⟩))))))
    obtain ⟨j4,g,a0⟩:=Fs a0;obtain ⟨dw,cr,dt⟩:=Dc cr;unfold law22_AuditTells.b3 at g;refine S (G (R q 1 c j fun a c=>E (T (S ?_))))
    have c:=c.tr (t:=45) j (decide_eq_true (by omega))
    refine Tr c j (K (T (S (O (S (G (R q 2 c j fun a c=>E (T (S (G (R q 3 c j fun a c=>L d c j (Fg q (p.m (i.t n)) 1 j j j j) j fun a c=>R q 1 c j fun a c=>?_)))))))))))
    obtain ⟨im,jv,cs,go,f9,fj⟩:=Sa (cm.m (i.t n)) (Int.natCast_nonneg _) (natIdx dw)
    obtain ⟨hu,ix,hv,iy,hw,iz,rfl,fc,jb,jc⟩:=TRelation.inv.1 f9
    refine L d c j (I q go j j j) j fun a c=>R q 1 c j fun a c=>L d c j (Fg q fj 2 j j j j) j fun a c=>R q 2 c j fun a c=>E (T ?_)
    obtain ⟨ej,a3,fq⟩:=bd g
    refine X c d (fun e L a' w'=>∃ a7 bh b6 cd cj,ej = .go a7∧ab.le bh∧Env a' 185 (sl e [1,2,7,8,9,10,43,44] [(11,.slice b6 a7.length cd)])∧Inv m l [] bh [.row (.slice b6 a7.length cd) 54 2 a7.length cj] w'∧RL bh 2 (a7.map TGrant.d) cj) ?_ ?_
    rotate_left
    · rintro a w ⟨a7,bh,b6,cd,cj,rfl,gz,c,d,ga⟩;have g:=Lg fq;refine xB (T (G (R q 2 c j fun a c=>E (T ?_))));cases g
      have c:=c.setI (t:=44) j (Wc dt (Ln cm))
      exact ⟨aj.length,Nat.lt_succ_self _,i3906 + 1,aj,_,bh,b6,cd,cj,j,dt,cr,a0,(n.t gz),c.kp j,d,ga⟩
    
    refine O (Q c d (fun e L n' a' w'=>∃ i4477 ak ar z bc bn az,n'=List.length ak∧i4477≤a8.Cols.length∧a8.Cols.drop i4477=ak∧forL (law22_AuditTells.b4 k b1 d1 i3906 s a8) i4477 ak ar=some ej∧ab.le z∧Env a' 185 (sl e [1,2,7,8,9,10,12,43,44,55] [(56,i_ (i4477:Int)),(11,.slice bc ar.length bn)])∧Inv m l [] z [.row (.slice bc ar.length bn) 54 2 ar.length az] w'∧RL z 2 (ar.map TGrant.d) az) _ ⟨0,_,_,ab,a9,bj,bo,j,Nat.zero_le _,j,a3,rf,c.kp j,d,d9⟩ ?_)
    rintro jr a w ⟨i4477,ak,ar,z,bc,bn,az,rfl,g5,cu,a3,aa,c,d,df⟩;rcases ak with _ | ⟨dz,ak⟩
    · obtain rfl:=Fn a3;have du:=Do cu g5;refine S (G (R q 1 c j fun a c=>E (T (S ?_))));have c:=c.tr (t:=57) j (decide_eq_false (by omega))
      refine Fa c j (Ex (Xe (Xe (Xh (T (⟨_,z,bc,bn,az,j,aa,c.kp j,d,df⟩))))))
    obtain ⟨j5,g,a3⟩:=Fs a3;obtain ⟨ha,cu,du⟩:=Dc cu;unfold law22_AuditTells.b4 at g;refine S (G (R q 1 c j fun a c=>E (T (S ?_))))
    have c:=c.tr (t:=57) j (decide_eq_true (by omega));refine Tr c j (K (T (S ?_)));obtain ⟨cz,g,gc⟩:=bd g
    refine X c d (fun e L a' w'=>∃ bi b7 ce ck,z.le bi∧Env a' 185 (sl e [1,2,7,8,9,10,12,43,44,55,56] [(11,.slice b7 cz.length ce)])∧Inv m l [] bi [.row (.slice b7 cz.length ce) 54 2 cz.length ck] w'∧RL bi 2 (cz.map TGrant.d) ck) ?_ ?_
    rotate_left
    · rintro a w ⟨bi,b7,ce,ck,g0,c,d,gb⟩;have g:=gc;refine T (G (R q 2 c j fun a c=>E (T ?_)));cases g
      have c:=c.setI (t:=56) j (Wc du (Ln fc))
      exact ⟨ak.length,Nat.lt_succ_self _,i4477 + 1,ak,_,bi,b7,ce,ck,j,du,cu,a3,(aa.t g0),c.kp j,d,gb⟩
    refine O (S (G (R q 2 c j fun a c=>E (T (S ?_)))));obtain ⟨ee,g,gd⟩:=bd g
    refine X c d (fun e L a' w'=>∃ aw,z.le aw∧Env a' 185 (sl e [1,2,7,8,9,10,11,12,13,43,44,55,56] [(71,.bool ee)])∧Inv m l [] aw L w') ?_ ?_
    · refine Cd mixed (by kernel_rfl) d (Y q 2 c j fun a c=>?_);rcases Bo b1.2 with bt | bt;rotate_left
      · replace g:=cf bt g;have c:=c.tr (t:=60) j bt;refine Y q 11 c j fun a c=>Qe ?_;intro w d;refine T ?_;cases g;exact ⟨z,rf,c.kp j,d⟩
      replace g:=ct bt g;have c:=c.tr (t:=60) j bt
      refine Y q 3 c j fun a c=>Z c j (Fg q (p.m ((i.t n).t aa)) 0 j j j j) j fun a c=>Y q 3 c j fun a c=>?_;obtain ⟨ka,hk,g⟩:=bd g
      refine Qc cl_10 c j j (fun w d=>(ref17_Column.ok k) hk d.pass0 (d6.m ((i.t n).t aa))) (fun _ _ _ h=>h.2) j fun a c=>Y q 1 c j fun a c=>?_
      obtain ⟨kb,hl,g⟩:=bd g
      refine Qc cl_13 c j j (fun w d=>(ref03_Lattice_Leq.ok k) hl d.pass0 (db.m ((i.t n).t aa))) (fun _ _ _ h=>h.2) j fun a c=>Y q 1 c j fun a c=>Qe ?_;intro w d
      refine T ?_;cases g;exact ⟨z,rf,c.kp j,d⟩
    rintro a w ⟨aw,af,c,d⟩;have g:=gd;refine T (Cc (b:=ee) c j (fun dl=>?_) (fun dl=>?_));rotate_left
    · replace g:=cf dl g;refine K (xB (T ?_));cases g;exact ⟨aw,bc,bn,az,af,c.kp j,d,(df.m af)⟩
    replace g:=ct dl g
    refine Mx [] [22,23] (.step 0 0 (.step 1 0 (.step 2 0 (.step 3 0 (.step 4 1 (.step 5 0 (.step 6 0 (.step 7 0 (.step 8 1 (.step 9 0 (.step 10 0 (.step 11 0 (.step 12 1 (.step 13 0 (.step 14 0 (.step 15 0 (.step 16 1 (.step 17 0 (.step 18 0 (.step 19 0 (.step 20 1 (.step 21 0 (.step 22 3 (.step 23 3 (.step 24 0 .nil))))))))))))))))))))))))) mixed (mixF_all (by kernel_rfl)) d (by decide) j fun w d hS=>H q 4 c j fun a c=>Dd hS c j j (Rw fun _=>(Fg q (p.m (((i.t n).t aa).t af)) 1 j j j j)) j fun a c=>H q 1 c j fun a c=>?_
    obtain ⟨io,jw,cs,gp,ge,fk⟩:=Sa (cm.m (((i.t n).t aa).t af)) (Int.natCast_nonneg _) (natIdx dw)
    obtain ⟨hy,i0,hz,i1,h0,i2,rfl,jd,je,jf⟩:=TRelation.inv.1 ge
    refine Dr c j j (I q gp j j j) j fun a c=>H q 1 c j fun a c=>Dd hS c j j (Rw fun _=>(Fg q fk 0 j j j j)) j fun a c=>H q 3 c j fun a c=>Dd hS c j j (Rw fun _=>(Fg q (p.m (((i.t n).t aa).t af)) 1 j j j j)) j fun a c=>H q 1 c j fun a c=>?_
    obtain ⟨ip,jx,cs,gq,gf,fl⟩:=Sa (cm.m (((i.t n).t aa).t af)) (Int.natCast_nonneg _) (natIdx dw)
    obtain ⟨h2,i3,h3,i4,h4,i5,rfl,fd,jg,jh⟩:=TRelation.inv.1 gf
    refine Dr c j j (I q gq j j j) j fun a c=>H q 1 c j fun a c=>Dd hS c j j (Rw fun _=>(Fg q fl 2 j j j j)) j fun a c=>H q 1 c j fun a c=>?_
    obtain ⟨iq,jy,cs,gr,gg,fm⟩:=Sa fd (Int.natCast_nonneg _) (natIdx ha);obtain rfl:=TField.inv.1 gg
    refine Dr c j j (I q gr j j j) j fun a c=>H q 1 c j fun a c=>Dd hS c j j (Rw fun _=>(Fg q fm 0 j j j j)) j fun a c=>Dr c j j (Bd q j z_54 j j) j fun a c=>Dl j (Bs ai_49 d c j j j j j fun a w ir c d=>?_)
    have ec:RL aw 2 ([(TGrant.mk a8.Name dz.Name)].map TGrant.d) _:=(Rc (TGrant.inv.2 j) j Rn);refine Dn (Dl j ?_);obtain ⟨_,gs,g⟩:=bd g
    refine Ao (f:=TGrant.d) (xs:=ar) (ys:=[(TGrant.mk a8.Name dz.Name)]) ai_49 1 0 d c j j j ec j j (Ll gs) j fun a w es e2 c d=>?_
    have gh:=Ra (df.m af) ec;refine Dn (H q 1 c j fun a c=>Dz (xB (T ?_)));cases g
    exact ⟨aw,es,e2,(az ++ [.string a8.Name,.string dz.Name]),af,c.kp j,(d.dropN 1 j),gh⟩
  rintro a w ⟨am,ac,b2,ca,cg,rfl,o,c,d,ft⟩;have g:=Lg fn
  refine T (S (G (R q 2 c j fun a c=>E (T (S (S (G (R q 3 c j fun a c=>L d c j (Fg q (p.m (i.t o)) 2 j j j j) j fun a c=>R q 2 c j fun a c=>E (T ?_)))))))))
  have d:=d.nilrow 9 1;have fu:RL ac 1 (([]:List ByteArray).map D.str) []:=Rn;obtain ⟨eg,a1,fo⟩:=bd g
  refine X c d (fun e L a' w'=>∃ ao ad c2 c6 c8,eg = .go ao∧ac.le ad∧Env a' 185 (sl e [1,2,7,8,11,15] [(14,.slice c2 ao.length c6)])∧Inv m l [] ad [.row (.slice c2 ao.length c6) 9 1 ao.length c8,nt L 1] w'∧RL ad 1 (ao.map D.str) c8) ?_ ?_
  ·
    refine O (Q c d (fun e L n' a' w'=>∃ i3820 ai an x ba bk ax,n'=List.length ai∧i3820≤s.Channels.length∧s.Channels.drop i3820=ai∧forL (law22_AuditTells.b2 k b1 s) i3820 ai an=some eg∧ac.le x∧Env a' 185 (sl e [1,2,7,8,9,10,11,15,101,102] [(103,i_ (i3820:Int)),(14,.slice ba an.length bk)])∧Inv m l [] x [.row (.slice ba an.length bk) 9 1 an.length ax,nt L 1] w'∧RL x 1 (an.map D.str) ax) _ ⟨0,_,_,ac,none,0,[],j,Nat.zero_le _,j,a1,rf,c.kp j,d,fu⟩ ?_)
    rintro jp a w ⟨i3820,ai,an,x,ba,bk,ax,rfl,g3,cq,a1,bu,c,d,dd⟩;rcases ai with _ | ⟨dy,ai⟩
    · obtain rfl:=Fn a1;have ds:=Do cq g3;refine S (G (R q 1 c j fun a c=>E (T (S ?_))));have c:=c.tr (t:=104) j (decide_eq_false (by omega))
      refine Fa c j (Ex (Xe (Xe (Xh (T (⟨_,x,ba,bk,ax,j,bu,c.kp j,d,dd⟩))))))
    obtain ⟨j3,g,a1⟩:=Fs a1;obtain ⟨g9,cq,ds⟩:=Dc cq;unfold law22_AuditTells.b2 at g;refine S (G (R q 1 c j fun a c=>E (T (S ?_))))
    have c:=c.tr (t:=104) j (decide_eq_true (by omega));refine Tr c j (K (T (S ?_)));obtain ⟨cy,g,f5⟩:=bd g
    refine X c d (fun e L a' w'=>∃ bg b5 cc ci,x.le bg∧Env a' 185 (sl e [1,2,7,8,9,10,11,15,101,102,103] [(14,.slice b5 cy.length cc)])∧Inv m l [] bg [.row (.slice b5 cy.length cc) 9 1 cy.length ci,nt L 1] w'∧RL bg 1 (cy.map D.str) ci) ?_ ?_
    rotate_left
    · rintro a w ⟨bg,b5,cc,ci,gy,c,d,f4⟩;have g:=f5;refine T (G (R q 2 c j fun a c=>E (T ?_)));cases g
      have c:=c.setI (t:=103) j (Wc ds (Ln d7))
      exact ⟨ai.length,Nat.lt_succ_self _,i3820 + 1,ai,_,bg,b5,cc,ci,j,ds,cq,a1,(bu.t gy),c.kp j,d,f4⟩
    refine O (S (G ?_));obtain ⟨ij,ju,cs,gm,f6,fi⟩:=Sa (d7.m ((i.t o).t bu)) (Int.natCast_nonneg _) (natIdx g9);obtain rfl:=TNamed.inv.1 f6
    refine L d c j (I q gm j j j) j fun a c=>L d c j (Fg q fi 0 j j j j) j fun a c=>A d c j z_56 j j fun a w ik c d=>W q 0 d c j j j j j j j j j j fun a w c d=>E (T (S ?_))
    obtain ⟨ed,g,f7⟩:=bd g
    refine X c d (fun e L a' w'=>∃ av,x.le av∧Env a' 185 (sl e [1,2,7,8,9,10,11,14,15,17,101,102,103] [(117,.bool ed)])∧Inv m l [] av L w') ?_ ?_
    · refine Cd mixed (by kernel_rfl) d (Y q 2 c j fun a c=>?_);rcases Bo b1.2 with bs | bs;rotate_left
      · replace g:=cf bs g;have c:=c.tr (t:=108) j bs;refine Y q 9 c j fun a c=>Qe ?_;intro w d;refine T ?_;cases g;exact ⟨x,rf,c.kp j,d⟩
      replace g:=ct bs g;have c:=c.tr (t:=108) j bs
      refine Y q 3 c j fun a c=>Z c j (Fg q (p.m ((i.t o).t bu)) 0 j j j j) j fun a c=>Y q 1 c j fun a c=>Z c j (B q 0 j j j j) j fun a c=>Y q 1 c j fun a c=>?_
      obtain ⟨j9,hi,g⟩:=bd g
      refine Qc cl_13 c j j (fun w d=>(ref03_Lattice_Leq.ok k) hi d.pass0 (db.m ((i.t o).t bu))) (fun _ _ _ h=>h.2) j fun a c=>Y q 1 c j fun a c=>Qe ?_;intro w d
      refine T ?_;cases g;exact ⟨x,rf,c.kp j,d⟩
    rintro a w ⟨av,cw,c,d⟩;have g:=f7;refine T (Cc (b:=ed) c j (fun dk=>?_) (fun dk=>?_));rotate_left
    · replace g:=cf dk g;refine K (xB (T ?_));cases g;exact ⟨av,ba,bk,ax,cw,c.kp j,(d.dropN 1 j),(dd.m cw)⟩
    replace g:=ct dk g;refine G (R q 2 c j fun a c=>L d c j (B q 0 j j j j) j fun a c=>Bs ai_22 d c j j j j j fun a w il c d=>?_)
    have eb:RL av 1 ([dy.Name].map D.str) _:=(Rc (rep_str.2 j) j Rn);obtain ⟨_,gn,g⟩:=bd g
    refine Ao (f:=D.str) (xs:=an) (ys:=[dy.Name]) ai_22 2 0 d c j j j eb j j (Ll gn) j fun a w eq e1 c d=>?_;have f8:=Ra (dd.m cw) eb
    refine R q 1 c j fun a c=>E (xB (T ?_));cases g;exact ⟨av,eq,e1,(ax ++ [.string dy.Name]),cw,c.kp j,(d.dropN 2 j),f8⟩
  rintro a w ⟨ao,ad,c2,c6,c8,rfl,ae,c,d,fv⟩;have g:=Lg fo
  refine T (S (S (G (R q 3 c j fun a c=>L d c j (Fg q (p.m ((i.t o).t ae)) 3 j j j j) j fun a c=>R q 2 c j fun a c=>E (T ?_)))))
  have d:=d.nilrow 9 1;have fw:RL ad 1 (([]:List ByteArray).map D.str) []:=Rn;obtain ⟨eh,a2,fp⟩:=bd g
  refine X c d (fun e L a' w'=>∃ aq b8 c3 c7 c9,eh = .go aq∧ad.le b8∧Env a' 185 (sl e [1,2,7,11,14] [(15,.slice c3 aq.length c7)])∧Inv m l [] b8 [.row (.slice c3 aq.length c7) 9 1 aq.length c9,nt L 1,nt L 2] w'∧RL b8 1 (aq.map D.str) c9) ?_ ?_
  ·
    refine O (Q c d (fun e L n' a' w'=>∃ i3750 ah ap y bb bl ay,n'=List.length ah∧i3750≤s.Principals.length∧s.Principals.drop i3750=ah∧forL (law22_AuditTells.b1 k s hp) i3750 ah ap=some eh∧ad.le y∧Env a' 185 (sl e [1,2,7,8,11,14,127,128] [(129,i_ (i3750:Int)),(15,.slice bb ap.length bl)])∧Inv m l [] y [.row (.slice bb ap.length bl) 9 1 ap.length ay,nt L 1,nt L 2] w'∧RL y 1 (ap.map D.str) ay) _ ⟨0,_,_,ad,none,0,[],j,Nat.zero_le _,j,a2,rf,c.kp j,d,fw⟩ ?_)
    rintro jo a w ⟨i3750,ah,ap,y,bb,bl,ay,rfl,g2,cp,a2,bv,c,d,de⟩;rcases ah with _ | ⟨dx,ah⟩
    · obtain rfl:=Fn a2;have dr:=Do cp g2;refine S (G (R q 1 c j fun a c=>E (T (S ?_))));have c:=c.tr (t:=130) j (decide_eq_false (by omega))
      refine Fa c j (Ex (Xe (Xe (Xh (T (⟨_,y,bb,bl,ay,j,bv,c.kp j,d,de⟩))))))
    obtain ⟨j2,g,a2⟩:=Fs a2;obtain ⟨g8,cp,dr⟩:=Dc cp;unfold law22_AuditTells.b1 at g;refine S (G (R q 1 c j fun a c=>E (T (S ?_))))
    have c:=c.tr (t:=130) j (decide_eq_true (by omega));refine Tr c j (K (T (S ?_)));obtain ⟨cx,g,f1⟩:=bd g
    refine X c d (fun e L a' w'=>∃ bf b4 cb ch,y.le bf∧Env a' 185 (sl e [1,2,7,8,11,14,127,128,129] [(15,.slice b4 cx.length cb)])∧Inv m l [] bf [.row (.slice b4 cx.length cb) 9 1 cx.length ch,nt L 1,nt L 2] w'∧RL bf 1 (cx.map D.str) ch) ?_ ?_
    rotate_left
    · rintro a w ⟨bf,b4,cb,ch,gx,c,d,f0⟩;have g:=f1;refine T (G (R q 2 c j fun a c=>E (T ?_)));cases g
      have c:=c.setI (t:=129) j (Wc dr (Ln dc))
      exact ⟨ah.length,Nat.lt_succ_self _,i3750 + 1,ah,_,bf,b4,cb,ch,j,dr,cp,a2,(bv.t gx),c.kp j,d,f0⟩
    refine O (S (G ?_));obtain ⟨ig,jt,cs,gk,f2,fh⟩:=Sa (dc.m (((i.t o).t ae).t bv)) (Int.natCast_nonneg _) (natIdx g8)
    obtain rfl:=TNamed.inv.1 f2
    refine L d c j (I q gk j j j) j fun a c=>L d c j (Fg q fh 0 j j j j) j fun a c=>A d c j z_56 j j fun a w ih c d=>W q 0 d c j j j j j j j j j j fun a w c d=>E (T (S (Cd mixed (by kernel_rfl) d (Y q 3 c j fun a c=>Z c j (Fg q (p.m (((i.t o).t ae).t bv)) 0 j j j j) j fun a c=>Y q 2 c j fun a c=>Z c j (B q 0 j j j j) j fun a c=>?_))))
    obtain ⟨hq,hh,g⟩:=bd g
    refine Qc cl_13 c j j (fun w d=>(ref03_Lattice_Leq.ok k) hh d.pass0 (db.m (((i.t o).t ae).t bv))) (fun _ _ _ h=>h.2) j fun a c=>Qe ?_;intro w d
    refine T (Cc (b:=hq) c j (fun dj=>?_) (fun dj=>?_));rotate_left
    · replace g:=cf dj g;refine K (xB (T ?_));cases g;exact ⟨y,bb,bl,ay,rf,c.kp j,(d.dropN 1 j),de⟩
    replace g:=ct dj g;refine G (R q 2 c j fun a c=>L d c j (B q 0 j j j j) j fun a c=>Bs ai_22 d c j j j j j fun a w ii c d=>?_)
    have ea:RL y 1 ([dx.Name].map D.str) _:=(Rc (rep_str.2 j) j Rn);obtain ⟨_,gl,g⟩:=bd g
    refine Ao (f:=D.str) (xs:=ap) (ys:=[dx.Name]) ai_22 2 0 d c j j j ea j j (Ll gl) j fun a w ep e0 c d=>?_;have f3:=Ra de ea
    refine R q 1 c j fun a c=>E (xB (T ?_));cases g;exact ⟨y,ep,e0,(ay ++ [.string dx.Name]),rf,c.kp j,(d.dropN 2 j),f3⟩
  rintro a w ⟨aq,b8,c3,c7,c9,rfl,bw,c,d,fx⟩;have g:=Lg fp;refine T (S (G (R q 2 c j fun a c=>?_)));obtain ⟨d0,hb,g⟩:=bd g
  refine J cl_14 d c j j ((audit_Reads.ok k) hb d.pass0 (cl.m (((i.t o).t ae).t bw))) j ?_;rintro a w _ c4 _ ⟨rfl,hr,iu,rfl,d5⟩ bx d c
  refine R q 1 c j fun a c=>E (T (S (S (G (R q 5 c j fun a c=>E (T (Cc (b:=!decide ((d0.length:Int)=(am.length:Int))) c j (fun dh=>?_) (fun dh=>?_))))))))
  · replace g:=ct dh g;refine S (G (R q 1 c j fun a c=>E (T (V (Xr ?_)))));cases g;refine N (v:=_) c j ⟨_,_,_,j,d.nil,j,j⟩
  replace g:=cf dh g;refine K (T (S (S (G (R q 3 c j fun a c=>E (T ?_))))));obtain ⟨ei,al,d8⟩:=bd g
  refine X c d (fun e L a' w'=>∃ b0 be d2 d4 da,ei = .go b0∧c4.le be∧Env a' 185 (sl e [1,2,7,14,15] [])∧Inv m l [] be [nt L 0,nt L 1,.row (.slice d2 b0.length d4) 54 2 b0.length da] w'∧RL be 2 (b0.map TGrant.d) da) ?_ ?_
  rotate_left
  · rintro a w ⟨b0,be,d2,d4,da,rfl,cv,c,d,ji⟩;have g:=Lg d8;refine T (S ?_);obtain ⟨ho,g,fy⟩:=bd g
    refine X c d (fun e L a' w'=>∃ c5,be.le c5∧Env a' 185 [(6,.bool ho)]∧Inv m l [] c5 [] w') ?_ ?_;rotate_left
    · rintro a w ⟨c5,jk,c,d⟩;have g:=fy;refine T (V ?_);cases g;refine N (v:=_) c j ⟨_,_,_,j,d.nil,j,j⟩
    refine G (R q 2 c j fun a c=>?_);obtain ⟨j6,hc,g⟩:=bd g
    refine J cl_16 d c j j ((audit_Hears.ok k) hc d.pass0 (cl.m (((((i.t o).t ae).t bw).t bx).t cv))) j ?_
    rintro a w _ eu _ ⟨rfl,hs,iv,rfl,e8⟩ a4 d c;refine R q 1 c j fun a c=>?_;obtain ⟨ek,hd,g⟩:=bd g
    refine Cl (S:=fun _ L' u=>L'=[]∧u = .bool ek) cl_15 d c j j (by obtain ⟨h9,gu,d,e9⟩:=(d.front 1).giveR (xs:=ao.map D.str) (by simp) (fv.m (((bw.t bx).t cv).t a4));exact ⟨_,(ref03_Texts.ok k) hd d.pass0 (e8.m gu) e9⟩) (fun _ _ _ h=>h.2) j ?_
    intro a w d c;refine R q 1 c j fun a c=>?_;rcases Bo ek with bq | bq;rotate_left
    · replace g:=cf bq g;have c:=c.tr (t:=175) j bq;refine R q 10 c j fun a c=>E (T ?_);cases g;exact ⟨eu,a4,c.kp j,(d.dropN 3 j)⟩
    replace g:=ct bq g;have c:=c.tr (t:=175) j bq;refine R q 2 c j fun a c=>?_;obtain ⟨j7,he,g⟩:=bd g
    refine J cl_17 d c j j ((audit_Who.ok k) he d.pass0 (cl.m ((((((i.t o).t ae).t bw).t bx).t cv).t a4))) j ?_
    rintro a w _ ev _ ⟨rfl,ht,iw,rfl,fa⟩ dp d c;refine R q 1 c j fun a c=>?_;obtain ⟨el,hf,g⟩:=bd g
    refine Cl (S:=fun _ L' u=>L'=[]∧u = .bool el) cl_15 d c j j (by obtain ⟨ia,gv,d,fb⟩:=(d.front 0).giveR (xs:=aq.map D.str) (by simp) (fx.m (((bx.t cv).t a4).t dp));exact ⟨_,(ref03_Texts.ok k) hf d.pass0 (fa.m gv) fb⟩) (fun _ _ _ h=>h.2) j ?_
    intro a w d c;refine R q 2 c j fun a c=>?_;rcases Bo el with br | br;rotate_left
    · replace g:=cf br g;have c:=c.tr (t:=182) j br;refine R q 3 c j fun a c=>E (T ?_);cases g;exact ⟨ev,(a4.t dp),c.kp j,(d.dropN 3 j)⟩
    replace g:=ct br g;have c:=c.tr (t:=182) j br;obtain ⟨j8,hg,g⟩:=bd g;refine J cl_11 d c j j ((law22_alive.ok kAlive) hg d.pass0 ) j ?_
    rintro a w _ ew _ ⟨rfl,rfl⟩ gw d c;refine R q 2 c j fun a c=>E (T ?_);cases g;exact ⟨ew,((a4.t dp).t gw),c.kp j,(d.dropN 3 j)⟩
  
  refine O (Q c d (fun e L n' a' w'=>∃ i3724 ag a6 au b3 bm bp,n'=List.length ag∧i3724≤d0.length∧d0.drop i3724=ag∧forL (law22_AuditTells.b0 k) i3724 ag a6=some ei∧c4.le au∧Env a' 185 (sl e [1,2,7,14,15,20,156] [(157,i_ (i3724:Int)),(11,.slice b3 a6.length bm)])∧Inv m l [] au [nt L 0,nt L 1,.row (.slice b3 a6.length bm) 54 2 a6.length bp] w'∧RL au 2 (a6.map TGrant.d) bp) _ ⟨0,_,_,c4,b2,ca,cg,j,Nat.zero_le _,j,al,rf,c.kp j,d,(ft.m ((ae.t bw).t bx))⟩ ?_)
  rintro jn a w ⟨i3724,ag,a6,au,b3,bm,bp,rfl,g1,co,al,dn,c,d,cn⟩;rcases ag with _ | ⟨c0,ag⟩
  · obtain rfl:=Fn al;have dq:=Do co g1;refine S (G (R q 1 c j fun a c=>E (T (S ?_))));have c:=c.tr (t:=158) j (decide_eq_false (by omega))
    refine Fa c j (Ex (Xe (Xe (Xh (T (⟨_,au,b3,bm,bp,j,dn,c.kp j,d,cn⟩))))))
  obtain ⟨j1,g,al⟩:=Fs al;obtain ⟨g7,co,dq⟩:=Dc co;unfold law22_AuditTells.b0 at g;refine S (G (R q 1 c j fun a c=>E (T (S ?_))))
  have c:=c.tr (t:=158) j (decide_eq_true (by omega))
  refine Tr c j (K (T (S (O (S (G (R q 2 c j fun a c=>E (T (S (Cd mixed (by kernel_rfl) d (Y q 2 c j fun a c=>?_)))))))))))
  obtain ⟨ie,js,cs,gj,fz,fg⟩:=Sa (d5.m dn) (Int.natCast_nonneg _) (natIdx g7);obtain rfl:=TGrant.inv.1 fz
  refine Z c j (I q gj j j j) j fun a c=>Z c j (Fg q fg 0 j j j j) j fun a c=>Y q 2 c j fun a c=>?_;obtain ⟨c1,bz,g⟩:=bd g
  obtain ⟨d3,rfl⟩:=row_ptr 2 d j j (Go bz).2;obtain ⟨ja,jj,g6,gt⟩:=Rt cn (Go bz).2;obtain rfl:=TGrant.inv.1 g6
  refine Z c j (I q (Ro (Go bz).1 (Go bz).2 d3 2) j j j) j fun a c=>Z c j (f_loadR q 2 j gt 0 j j j j (Rl cn (Go bz).2)) j fun a c=>Z c j (f_nes q se_54 [.txt c0.Table c1.Table,.txt c0.Column c1.Column] j j j) j fun a c=>Qe ?_
  intro w d;refine T (Cc (b:=(!(decide (c0.Table=c1.Table) && decide (c0.Column=c1.Column)))) c j (fun dg=>?_) (fun dg=>?_))
  · replace g:=ct dg g;refine S (G (R q 1 c j fun a c=>E (T (V (Xb (Xr (Xr (Xb (Xr (Xr ?_))))))))));cases g;obtain rfl:=Nr al;have g:=Le d8;cases g
    refine N (v:=_) c j ⟨_,_,_,j,d.nil,j,j⟩
  replace g:=cf dg g;refine K (xB (T (G (R q 2 c j fun a c=>E (T ?_)))));cases g;have c:=c.setI (t:=157) j (Wc dq (Ln d5))
  exact ⟨ag.length,Nat.lt_succ_self _,i3724 + 1,ag,_,au,(p_ d3),bm,bp,j,dq,co,al,dn,c.kp j,d,cn⟩
end Go.Proofs.YtknhbphhdfknaaaGreatDoor
