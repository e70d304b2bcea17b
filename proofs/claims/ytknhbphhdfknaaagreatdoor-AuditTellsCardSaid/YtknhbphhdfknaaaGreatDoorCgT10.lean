/- The contracts: what the machine does at a call is what the plain function says. Written by mk.py. -/
import Derived.Test.YtknhbphhdfknaaaGreatDoorCgT1
import Derived.Test.YtknhbphhdfknaaaGreatDoorCgT3
import Derived.Test.YtknhbphhdfknaaaGreatDoorCgT6
import Derived.Test.YtknhbphhdfknaaaGreatDoorCgT7
import Derived.Test.YtknhbphhdfknaaaGreatDoorCgT9
set_option linter.unusedVariables false
set_option linter.unusedSimpArgs false
set_option maxRecDepth 100000
namespace Go.Proofs.YtknhbphhdfknaaaGreatDoor
open Go.RowKit
theorem ref08_Find.ok (k:Nat):ref08_Find.C (ref08_Find k):=by
  intro aa ab r d ae i an aq f p
  unfold ref08_Find at d
  refine Ci 25 Tryz.func12 j j j fun a c=>?_
  refine S (G (R q 2 c j fun a c=>E (T (S (S (G (R q 1 c j fun a c=>E (T ?_))))))));obtain ⟨z,h,x⟩:=bd d
  refine X c f (fun e L a' w'=>∃ ad o,z = .go ad∧i.le o∧Env a' 25 []∧Inv ae i [] o L w') ?_ ?_;rotate_left
  · rintro a w ⟨ad,o,rfl,ar,c,f⟩;have d:=Lg x;refine T (S (G (R q 2 c j fun a c=>E (T (V ?_)))));cases d;refine N (v:=_) c j ⟨_,_,_,j,f.nil,j,j⟩
  
  refine O (Q c f (fun e L n' a' w'=>∃ i32 g ac l,n'=List.length g∧i32≤aa.length∧aa.drop i32=g∧forL (ref08_Find.b0 k ab) i32 g ac=some z∧i.le l∧Env a' 25 (sl e [0,1] [(6,i_ (i32:Int))])∧Inv ae i [] l L w') _ ⟨0,_,_,i,j,Nat.zero_le _,j,h,rf,c.kp j,f⟩ ?_)
  rintro au a w ⟨i32,g,ac,l,rfl,al,m,h,n,c,f⟩;rcases g with _ | ⟨am,g⟩
  · obtain rfl:=Fn h;have u:=Do m al;refine S (S (G (R q 4 c j fun a c=>E (T ?_))));have c:=c.tr (t:=10) j (decide_eq_false (by omega))
    refine Fa c j (Ex (Xe (Xe (Xh (T (⟨_,l,j,n,c.kp j,f⟩))))))
  obtain ⟨ax,d,h⟩:=Fs h;obtain ⟨y,m,u⟩:=Dc m;unfold ref08_Find.b0 at d;refine S (S (G (R q 4 c j fun a c=>E (T ?_))))
  have c:=c.tr (t:=10) j (decide_eq_true (by omega));refine Tr c j (K (T (S (O (S (G (R q 2 c j fun a c=>?_)))))))
  obtain ⟨ao,av,cs,aj,ah,af⟩:=Sa (p.m n) (Int.natCast_nonneg _) (natIdx y);obtain rfl:=TNamed.inv.1 ah
  refine L f c j (I q aj j j j) j fun a c=>R q 1 c j fun a c=>L f c j (Fg q af 0 j j j j) j fun a c=>R q 2 c j fun a c=>E (T (Cc (b:=decide (am.Name=ab)) c j (fun s=>?_) (fun s=>?_)))
  rotate_left
  · replace d:=cf s d;refine K (xB (T (G (R q 3 c j fun a c=>E (T ?_)))));cases d;have c:=c.setI (t:=6) j (Wc u (Ln p))
    exact ⟨g.length,Nat.lt_succ_self _,i32 + 1,g,_,l,j,u,m,h,n,c.kp j,f⟩
  replace d:=ct s d;refine S (G (R q 2 c j fun a c=>?_));obtain ⟨ap,aw,cs,ak,ai,ag⟩:=Sa (p.m n) (Int.natCast_nonneg _) (natIdx y);obtain rfl:=TNamed.inv.1 ai
  refine L f c j (I q ak j j j) j fun a c=>R q 1 c j fun a c=>L f c j (Fg q ag 1 j j j j) j fun a c=>R q 2 c j fun a c=>E (T (V (Xb (Xr (Xr (Xb (Xr (Xr ?_))))))))
  cases d;obtain rfl:=Nr h;have d:=Le x;cases d;refine N (v:=_) c j ⟨_,_,_,j,f.nil,j,j⟩

theorem cl_43:Callable Tryz.prog 43:=⟨_,Tryz.func43,by kernel_rfl,by kernel_rfl⟩

def ref08_Catalog_named.C (s:Tref08_Catalog→(List TPair)→Option ((List TNamed) × Int × Int × Tref08_Catalog)):Prop:=∀ {b o r},s b o=some r→∀ {d c u i f g m h n e l t y},Inv d c u c [.blk i [.pointer f,.slice g b.Tables.length m,.slice h b.Channels.length n,.slice e b.Principals.length l,i_ b.Limit] 36] d→(Pt c f 99 Tref03_Lattice.d b.L)→(Sl c g m 6 (b.Tables.map TRelation.d))→(Sl c h n 2 (b.Channels.map TNamed.d))→(Sl c e l 2 (b.Principals.map TNamed.d))→(Sl c t y 2 (o.map TPair.d))→Calls Tryz.prog 43 #[(P i),.slice t o.length y] d (Ret d c u fun G' L' v=>∃ p x,L'=[.blk i [.pointer f,.slice g b.Tables.length m,.slice h b.Channels.length n,.slice e b.Principals.length l,i_ b.Limit] 36]∧v = .tuple ⟨[.slice p r.1.length x,i_ r.2.1,i_ r.2.2.1]⟩∧Sl G' p x 2 (r.1.map TNamed.d))

theorem ref08_Catalog_named.ok (k:Nat):ref08_Catalog_named.C (ref08_Catalog_named k):=by
  intro av bf r g aw p ao a2 az a0 a4 a1 a5 ay a3 ch cq d a7 a8 a9 a6 y
  unfold ref08_Catalog_named at g
  refine Ci 65 Tryz.func43 j j j fun a c=>?_
  refine S (G (R q 3 c j fun a c=>E (T (S (G (R q 1 c j fun a c=>E (T (S (S (G (R q 1 c j fun a c=>E (T ?_))))))))))))
  have d:=d.nilrow 56 2;have bv:RL p 2 (([]:List TNamed).map TNamed.d) []:=Rn;obtain ⟨be,s,ba⟩:=bd g
  refine X c d (fun e L a' w'=>∃ x ag af ai ap,be = .go x∧p.le ag∧Env a' 65 [(7,.slice af x.length ai)]∧Inv aw p ao ag [.row (.slice af x.length ai) 56 2 x.length ap,nt L 1] w'∧RL ag 2 (x.map TNamed.d) ap) ?_ ?_
  rotate_left
  · rintro a w ⟨x,ag,af,ai,ap,rfl,cr,c,d,bw⟩;have g:=Lg ba;refine T (S (G (R q 4 c j fun a c=>E (T ?_))))
    obtain ⟨ci,cu,d,bk⟩:=(d.front 0).giveR (xs:=x.map TNamed.d) (by simp) bw;refine V ?_;cases g;refine N (v:=_) c j ⟨_,_,_,j,d,af,ai,j,j,bk⟩
  
  refine O (Q c d (fun e L n' a' w'=>∃ i419 n o l ae ah aa,n'=List.length n∧i419≤bf.length∧bf.drop i419=n∧forL (ref08_Catalog_named.b0 k av) i419 n o=some be∧p.le l∧Env a' 65 (sl e [0,1] [(8,i_ (i419:Int)),(7,.slice ae o.length ah)])∧Inv aw p ao l [.row (.slice ae o.length ah) 56 2 o.length aa,nt L 1] w'∧RL l 2 (o.map TNamed.d) aa) _ ⟨0,_,_,p,none,0,[],j,Nat.zero_le _,j,s,rf,c.kp j,d,bv⟩ ?_)
  rintro cw a w ⟨i419,n,o,l,ae,ah,aa,rfl,cb,aj,s,i,c,d,aq⟩;rcases n with _ | ⟨am,n⟩
  · obtain rfl:=Fn s;have au:=Do aj cb;refine S (S (G (R q 4 c j fun a c=>E (T ?_))));have c:=c.tr (t:=14) j (decide_eq_false (by omega))
    refine Fa c j (Ex (Xe (Xe (Xh (T (⟨_,l,ae,ah,aa,j,i,c.kp j,d,aq⟩))))))
  obtain ⟨c2,g,s⟩:=Fs s;obtain ⟨ad,aj,au⟩:=Dc aj;unfold ref08_Catalog_named.b0 at g;refine S (S (G (R q 4 c j fun a c=>E (T ?_))))
  have c:=c.tr (t:=14) j (decide_eq_true (by omega));refine Tr c j (K (T (S (O (S (G (R q 3 c j fun a c=>?_)))))))
  obtain ⟨ck,cx,cs,b5,bx,bo⟩:=Sa (y.m i) (Int.natCast_nonneg _) (natIdx ad);obtain rfl:=TPair.inv.1 bx
  refine L d c j (I q b5 j j j) j fun a c=>R q 1 c j fun a c=>L d c j (Fg q bo 0 j j j j) j fun a c=>?_;obtain ⟨ax,cc,g⟩:=bd g
  refine Cl (S:=fun _ L' u=>L'=[]∧u = .tuple ⟨[i_ ax.1,.bool ax.2]⟩) cl_12 d c j j (by obtain ⟨cj,cv,d,bl⟩:=(d.front 0).giveR (xs:=o.map TNamed.d) (by simp) aq;exact ⟨_,(ref08_Find.ok k) cc d.pass0 bl⟩) (fun _ _ _ h=>h.2) j ?_
  intro a w d c;refine R q 5 c j fun a c=>E (T (S (S ?_)));obtain ⟨bc,g,bz⟩:=bd g
  refine X c d (fun e L a' w'=>∃ z,l.le z∧Env a' 65 (sl e [0,1,7,8] [(45,.bool bc)])∧Inv aw p ao z L w') ?_ ?_
  · refine G (R q 2 c j fun a c=>?_);obtain ⟨co,c0,cs,b9,b3,bs⟩:=Sa (y.m i) (Int.natCast_nonneg _) (natIdx ad);obtain rfl:=TPair.inv.1 b3
    refine L d c j (I q b9 j j j) j fun a c=>R q 1 c j fun a c=>L d c j (Fg q bs 0 j j j j) j fun a c=>R q 2 c j fun a c=>?_
    rcases Bo (decide (am.Low=(⟨#[]⟩:ByteArray))) with ab | ab
    · replace g:=ct ab g;have c:=c.tr (t:=33) j ab;refine R q 12 c j fun a c=>E (T ?_);cases g;exact ⟨l,rf,c.kp j,d⟩
    replace g:=cf ab g;have c:=c.tr (t:=33) j ab;refine R q 3 c j fun a c=>?_;rcases Bo ax.2 with ac | ac
    · replace g:=ct ac g;have c:=c.tr (t:=36) j ac;refine R q 9 c j fun a c=>E (T ?_);cases g;exact ⟨l,rf,c.kp j,d⟩
    replace g:=cf ac g;have c:=c.tr (t:=36) j ac;refine R q 3 c j fun a c=>?_;obtain ⟨cp,c1,cs,ca,b4,bt⟩:=Sa (y.m i) (Int.natCast_nonneg _) (natIdx ad)
    obtain rfl:=TPair.inv.1 b4;refine L d c j (I q ca j j j) j fun a c=>R q 1 c j fun a c=>L d c j (Fg q bt 1 j j j j) j fun a c=>?_
    obtain ⟨cg,ce,g⟩:=bd g
    refine Cl (S:=fun _ L' u=>L'=[]∧u=i_ cg) cl_85 d c j j (by obtain ⟨bi,al,d,bu⟩:=(d.front 1).giveB;have bn:Pt bi (p_ a2) 36 Tref08_Catalog.d (some av):=Pm (Tref08_Catalog.inv.2 ⟨az,a0,a4,a1,a5,ay,a3,j,(a7.m (i.t al)),(a8.m (i.t al)),(a9.m (i.t al)),(a6.m (i.t al))⟩) bu;exact ⟨_,(ref08_Catalog_level.ok k) ce d.pass0 bn⟩) (fun _ _ _ h=>h.2) j ?_
    intro a w d c;refine R q 2 c j fun a c=>E (T ?_);cases g;exact ⟨l,rf,c.kp j,d⟩
  rintro a w ⟨z,m,c,d⟩;have g:=bz;refine T (Cc (b:=bc) c j (fun ar=>?_) (fun ar=>?_))
  · replace g:=ct ar g;refine S (G (R q 5 c j fun a c=>E (T (V (Xr (Xb (Xr (Xr (Xb (Xr (Xr ?_)))))))))));cases g;obtain rfl:=Nr s;have g:=Le ba;cases g
    refine N (v:=_) c j ⟨_,_,_,j,(d.pick [1] (by decide) j),none,0,j,j,(Sn _ _ _ _ (Nat.zero_le _))⟩
  replace g:=cf ar g
  refine K (T (Mx [] [14,15] (.step 0 0 (.step 1 0 (.step 2 0 (.step 3 0 (.step 4 0 (.step 5 1 (.step 6 0 (.step 7 0 (.step 8 0 (.step 9 0 (.step 10 0 (.step 11 1 (.step 12 2 (.step 13 0 (.step 14 3 (.step 15 3 (.step 16 0 .nil))))))))))))))))) mixed (mixF_all (by kernel_rfl)) d (by decide) j fun w d hS=>H q 3 c j fun a c=>?_))
  obtain ⟨cl,cy,cs,b6,b0,bp⟩:=Sa (y.m (i.t m)) (Int.natCast_nonneg _) (natIdx ad);obtain rfl:=TPair.inv.1 b0
  refine Dr c j j (I q b6 j j j) j fun a c=>H q 1 c j fun a c=>Dd hS c j j (Rw fun _=>(Fg q bp 0 j j j j)) j fun a c=>H q 3 c j fun a c=>?_
  obtain ⟨cm,cz,cs,b7,b1,bq⟩:=Sa (y.m (i.t m)) (Int.natCast_nonneg _) (natIdx ad);obtain rfl:=TPair.inv.1 b1
  refine Dr c j j (I q b7 j j j) j fun a c=>H q 1 c j fun a c=>Dd hS c j j (Rw fun _=>(Fg q bq 1 j j j j)) j fun a c=>Df j ?_
  obtain ⟨an,cd,g⟩:=bd g
  refine Cl (S:=fun _ L' u=>L'=[]∧u=i_ an) cl_85 d c j j (by obtain ⟨bh,ak,d,br⟩:=(d.front 1).giveB;have bm:Pt bh (p_ a2) 36 Tref08_Catalog.d (some av):=Pm (Tref08_Catalog.inv.2 ⟨az,a0,a4,a1,a5,ay,a3,j,(a7.m ((i.t m).t ak)),(a8.m ((i.t m).t ak)),(a9.m ((i.t m).t ak)),(a6.m ((i.t m).t ak))⟩) br;exact ⟨_,(ref08_Catalog_level.ok k) cd d.pass0 bm⟩) (fun _ _ _ h=>h.2) j ?_
  intro a w d c
  refine De (d.sw [] (by decide) j rf) fun hS=>Dr c j j (Bd q j z_56 j j) j fun a c=>Dl j (Bs ai_34 d c j j j j j fun a w cn c d=>?_)
  have bb:RL z 2 ([(TNamed.mk am.Low an)].map TNamed.d) _:=(Rc (TNamed.inv.2 j) j Rn);refine Dn (Dl j ?_);obtain ⟨_,b8,g⟩:=bd g
  refine Ao (f:=TNamed.d) (xs:=o) (ys:=[(TNamed.mk am.Low an)]) ai_34 1 0 d c j j j bb j j (Ll b8) j fun a w bg bj c d=>?_;have b2:=Ra (aq.m m) bb
  refine Dn (H q 1 c j fun a c=>Dz (xB (T (G (R q 3 c j fun a c=>E (T ?_))))));cases g;have c:=c.setI (t:=8) j (Wc au (Ln y))
  exact ⟨n.length,Nat.lt_succ_self _,i419 + 1,n,_,z,bg,bj,(aa ++ [.string am.Low,i_ an]),j,au,aj,s,(i.t m),c.kp j,(d.dropN 1 j),b2⟩

theorem cl_20:Callable Tryz.prog 20:=⟨_,Tryz.func20,by kernel_rfl,by kernel_rfl⟩

def ref08_New.C (s:TSchema→Option ((Option Tref08_Catalog) × Int × Int)):Prop:=∀ {f r},s f=some r→∀ {c b e},Inv c b [] b [] c→(Rep b f.d e)→Calls Tryz.prog 20 #[.agg ⟨e⟩] c (Ret c b [] fun G' L' v=>L'=[]∧∃ d,v = .tuple ⟨[.pointer d,i_ r.2.1,i_ r.2.2]⟩∧Pt G' d 36 Tref08_Catalog.d r.1)

theorem ref08_New.ok (k:Nat):ref08_New.C (ref08_New k):=by
  intro s r g az ao ds d co
  unfold ref08_New at g
  obtain ⟨c7,dn,da,dp,dc,dr,c8,dl,c9,dm,rfl,b9,ck,bm,b7,b8⟩:=TSchema.inv.1 co
  refine Ci 130 Tryz.func20 j j j fun a c=>?_
  
  refine S (G (s_box d c j j j j fun a w dg c d=>R q 3 c j fun a c=>E (T (S (G (R q 1 c j fun a c=>L d c j (B q 0 j j j j) j fun a c=>R q 1 c j fun a c=>L d c j (B q 0 j j j j) j fun a c=>?_))))))
  obtain ⟨a0,c3,g⟩:=bd g;refine J cl_41 d c j j ((ref03_New.ok k) c3 d.pass0 b9 ck) j ?_;rintro a w _ u _ ⟨rfl,al,rfl,av⟩ a9 d c
  refine R q 5 c j fun a c=>E (T (S (S (G (R q 2 c j fun a c=>E (T (Cc (b:=!decide (a0.2=(0:Int))) c j (fun a8=>?_) (fun a8=>?_))))))))
  · replace g:=ct a8 g;refine S (G (R q 4 c j fun a c=>E (T (V (Xr ?_)))));cases g;refine N (v:=_) c j ⟨_,_,_,j,d.nil,j,none,j,Pn⟩
  replace g:=cf a8 g
  refine K (T (S (G (R q 2 c j fun a c=>L d c j (B q 0 j j j j) j fun a c=>L d c j (Bd q j z_36 j j) j fun a c=>s_box d c j j j j fun a w ac c d=>R q 1 c j fun a c=>E (T (S (S ?_)))))))
  obtain ⟨bq,g,cr⟩:=bd g;refine X c d (fun e L a' w'=>∃ y,u.le y∧Env a' 130 (sl e [1,7] [(58,.bool bq)])∧Inv az ao [] y L w') ?_ ?_
  · refine G (R q 1 c j fun a c=>L d c j (B q 1 j j j j) j fun a c=>R q 3 c j fun a c=>?_)
    rcases Bo (decide ((20:Int) < (s.Tables.length:Int))) with ae | ae
    · replace g:=ct ae g;have c:=c.tr (t:=37) j ae;refine R q 21 c j fun a c=>E (T ?_);cases g;exact ⟨u,rf,c.kp j,d⟩
    replace g:=cf ae g;have c:=c.tr (t:=37) j ae;refine R q 1 c j fun a c=>L d c j (B q 1 j j j j) j fun a c=>R q 4 c j fun a c=>?_
    rcases Bo (decide ((20:Int) < (s.Channels.length:Int))) with af | af
    · replace g:=ct af g;have c:=c.tr (t:=43) j af;refine R q 15 c j fun a c=>E (T ?_);cases g;exact ⟨u,rf,c.kp j,d⟩
    replace g:=cf af g;have c:=c.tr (t:=43) j af;refine R q 1 c j fun a c=>L d c j (B q 1 j j j j) j fun a c=>R q 4 c j fun a c=>?_
    rcases Bo (decide ((20:Int) < (s.Principals.length:Int))) with ag | ag
    · replace g:=ct ag g;have c:=c.tr (t:=49) j ag;refine R q 9 c j fun a c=>E (T ?_);cases g;exact ⟨u,rf,c.kp j,d⟩
    replace g:=cf ag g;have c:=c.tr (t:=49) j ag;refine R q 1 c j fun a c=>L d c j (B q 1 j j j j) j fun a c=>R q 3 c j fun a c=>?_
    rcases Bo (decide (s.Limit < (0:Int))) with ah | ah
    · replace g:=ct ah g;have c:=c.tr (t:=54) j ah;refine R q 4 c j fun a c=>E (T ?_);cases g;exact ⟨u,rf,c.kp j,d⟩
    replace g:=cf ah g;have c:=c.tr (t:=54) j ah;refine R q 1 c j fun a c=>L d c j (B q 1 j j j j) j fun a c=>R q 2 c j fun a c=>E (T ?_)
    cases g;exact ⟨u,rf,c.kp j,d⟩
  rintro a w ⟨y,o,c,d⟩;have g:=cr;refine T (Cc (b:=bq) c j (fun a7=>?_) (fun a7=>?_))
  · replace g:=ct a7 g;refine S (G (R q 3 c j fun a c=>E (T (V (Xr ?_)))));cases g;refine N (v:=_) c j ⟨_,_,_,j,d.nil,j,none,j,Pn⟩
  replace g:=cf a7 g;refine K (T (S (S (G (R q 1 c j fun a c=>L d c j (B q 1 j j j j) j fun a c=>R q 1 c j fun a c=>E (T ?_))))))
  obtain ⟨z,g,cx⟩:=bd g
  refine X c d (fun e L a' w'=>∃ m,y.le m∧Env a' 130 (sl e [1,7] [])∧Inv az ao [] m [.blk ac [.pointer al,.slice none 0 0,.slice none 0 0,.slice none 0 0,i_ z] 36,nt L 1] w') ?_ ?_
  · refine Cc (b:=decide (s.Limit=(0:Int))) c j (fun a6=>?_) (fun a6=>?_);rotate_left
    · replace g:=cf a6 g;refine K (T ?_);cases g;exact ⟨y,rf,c.kp j,d⟩
    replace g:=ct a6 g;refine G (R q 3 c j fun a c=>W q 0 d c j j j j j j j j j j fun a w c d=>E (T ?_));cases g;exact ⟨y,rf,c.kp j,d⟩
  rintro a w ⟨m,p,c,d⟩;have g:=cx;refine T (S (S (G (R q 1 c j fun a c=>E (T ?_)))));have d:=d.nilrow 43 6
  have cn:RL m 6 (([]:List TRelation).map TRelation.d) []:=Rn;obtain ⟨br,n,bn⟩:=bd g
  refine X c d (fun e L a' w'=>∃ i ap an ar a1,br = .go i∧m.le ap∧Env a' 130 (sl e [1,7] [])∧Inv az ao [] ap [.row (.slice an i.length ar) 43 6 i.length a1,.blk ac [.pointer al,.slice an i.length ar,.slice none 0 0,.slice none 0 0,i_ z] 36,nt L 2] w'∧RL ap 6 (i.map TRelation.d) a1) ?_ ?_
  rotate_left
  · rintro a w ⟨i,ap,an,ar,a1,rfl,ai,c,d,cp⟩;have g:=Lg bn
    refine T (S (G (R q 2 c j fun a c=>L d c j (B q 2 j j j j) j fun a c=>?_)))
    obtain ⟨dd,ak,d,a2⟩:=(d.front 0).giveR (xs:=i.map TRelation.d) (by simp) cp;obtain ⟨bc,c4,g⟩:=bd g
    refine M 1 cl_43 d c j j (fun ad=>(ref08_Catalog_named.ok k) c4 ad (av.m (((o.t p).t ai).t ak)) a2 (Sn _ _ _ _ (Nat.zero_le _)) (Sn _ _ _ _ (Nat.zero_le _)) (b7.m ((((a9.t o).t p).t ai).t ak))) j ?_
    rintro a w _ de _ ⟨bs,b0,rfl,rfl,ca⟩ aj d c
    refine R q 7 c j fun a c=>E (T (S (S (G (R q 2 c j fun a c=>E (T (Cc (b:=!decide (bc.2.1=(0:Int))) c j (fun a4=>?_) (fun a4=>?_))))))))
    · replace g:=ct a4 g;refine S (G (R q 5 c j fun a c=>E (T (V (Xr ?_)))));cases g;refine N (v:=_) c j ⟨_,_,_,j,d.nil,j,none,j,Pn⟩
    replace g:=cf a4 g;refine K (T (S (G (R q 2 c j fun a c=>L d c j (B q 1 j j j j) j fun a c=>?_))));obtain ⟨be,c5,g⟩:=bd g
    refine M 1 cl_43 d c j j (fun ad=>(ref08_Catalog_named.ok k) c5 ad (av.m ((((o.t p).t ai).t ak).t aj)) (a2.m aj) (Sn _ _ _ _ (Nat.zero_le _)) (Sn _ _ _ _ (Nat.zero_le _)) (b8.m (((((a9.t o).t p).t ai).t ak).t aj))) j ?_
    rintro a w _ df _ ⟨bt,b1,rfl,rfl,cb⟩ ba d c
    refine R q 7 c j fun a c=>E (T (S (S (G (R q 2 c j fun a c=>E (T (Cc (b:=!decide (be.2.1=(0:Int))) c j (fun a3=>?_) (fun a3=>?_))))))))
    · replace g:=ct a3 g;refine S (G (R q 5 c j fun a c=>E (T (V (Xr ?_)))));cases g;refine N (v:=_) c j ⟨_,_,_,j,d.nil,j,none,j,Pn⟩
    replace g:=cf a3 g
    refine K (T (S (G (R q 4 c j fun a c=>W q 0 d c j j j j j j j j j j fun a w c d=>E (T (S (G (R q 4 c j fun a c=>W q 0 d c j j j j j j j j j j fun a w c d=>E (T (S (G (R q 4 c j fun a c=>E (T ?_)))))))))))))
    obtain ⟨bz,ay,d,cl⟩:=(d.front 0).giveB
    have cc:Pt bz (p_ ac) 36 Tref08_Catalog.d (some (Tref08_Catalog.mk a0.1 i bc.1 be.1 z)):=Pm ((Tref08_Catalog.inv (x:=(Tref08_Catalog.mk a0.1 i bc.1 be.1 z))).2 ⟨al,an,ar,bs,b0,bt,b1,j,(av.m ((((((o.t p).t ai).t ak).t aj).t ba).t ay)),(a2.m ((aj.t ba).t ay)),(ca.m (ba.t ay)),(cb.m ay)⟩) cl
    refine V ?_;cases g;refine N (v:=_) c j ⟨_,_,_,j,d.nil,j,(p_ ac),j,cc⟩
  
  refine O (Q c d (fun e L n' a' w'=>∃ i448 l aa ab am aq au,n'=List.length l∧i448≤s.Tables.length∧s.Tables.drop i448=l∧forL (ref08_New.b0 k a0 z) i448 l aa=some br∧m.le ab∧Env a' 130 (sl e [1,7] [(8,i_ (i448:Int))])∧Inv az ao [] ab [.row (.slice am aa.length aq) 43 6 aa.length au,.blk ac [.pointer al,.slice am aa.length aq,.slice none 0 0,.slice none 0 0,i_ z] 36,nt L 2] w'∧RL ab 6 (aa.map TRelation.d) au) _ ⟨0,_,_,m,none,0,[],j,Nat.zero_le _,j,n,rf,c.kp j,d,cn⟩ ?_)
  rintro du a w ⟨i448,l,aa,ab,am,aq,au,rfl,c1,aw,n,ax,c,d,bo⟩;rcases l with _ | ⟨dx,l⟩
  · obtain rfl:=Fn n;have bb:=Do aw c1
    refine S (S (G (R q 2 c j fun a c=>L d c j (B q 2 j j j j) j fun a c=>R q 2 c j fun a c=>E (T ?_))))
    have c:=c.tr (t:=69) j (decide_eq_false (by omega));refine Fa c j (Ex (Xe (Xe (Xh (T (⟨_,ab,am,aq,au,j,ax,c.kp j,d,bo⟩))))))
  obtain ⟨dw,g,n⟩:=Fs n;obtain ⟨c2,aw,bb⟩:=Dc aw;unfold ref08_New.b0 at g
  refine S (S (G (R q 2 c j fun a c=>L d c j (B q 2 j j j j) j fun a c=>R q 2 c j fun a c=>E (T ?_))))
  have c:=c.tr (t:=69) j (decide_eq_true (by omega))
  refine Tr c j (K (T (S (O (S (G (R q 2 c j fun a c=>L d c j (B q 2 j j j j) j fun a c=>R q 1 c j fun a c=>?_)))))))
  obtain ⟨dh,dv,cs,cy,cq,cm⟩:=Sa (bm.m (((a9.t o).t p).t ax)) (Int.natCast_nonneg _) (natIdx c2)
  obtain ⟨bu,b2,bv,b3,bw,b4,rfl,cd,ce,cg⟩:=TTable.inv.1 cq
  refine L d c j (I q cy j j j) j fun a c=>L d c j (Fg q cm 0 j j j j) j fun a c=>?_;have d:=d.pick [1,0,2] (by decide) j
  obtain ⟨h,c6,g⟩:=bd g
  refine M 2 cl_42 d c j j (fun ad=>(ref08_Catalog_table.ok k) c6 ad (av.m ((o.t p).t ax)) bo (Sn _ _ _ _ (Nat.zero_le _)) (Sn _ _ _ _ (Nat.zero_le _)) (TTable.inv.2 ⟨bu,b2,bv,b3,bw,b4,j,cd,ce,cg⟩)) j ?_
  rintro a w _ bi _ ⟨dt,db,dq,b6,rfl,rfl,cu,cv⟩ c0 d c;obtain ⟨bf,bj,bg,bk,bh,bl,rfl,ch,ci,cj⟩:=TRelation.inv.1 cu
  refine R q 3 c j fun a c=>A d c j z_43 j j fun a w dj c d=>W q 0 d c j j j j j j j j j j fun a w c d=>R q 1 c j fun a c=>E (T (S (S (G (R q 2 c j fun a c=>E (T (Cc (b:=!decide (h.2.1=(0:Int))) c j (fun a5=>?_) (fun a5=>?_))))))))
  · replace g:=ct a5 g;refine S (G (R q 6 c j fun a c=>E (T (V (Xr (Xb (Xr (Xr (Xb (Xr (Xr ?_)))))))))));cases g;obtain rfl:=Nr n;have g:=Le bn;cases g
    refine N (v:=_) c j ⟨_,_,_,j,d.nil,j,none,j,Pn⟩
  replace g:=cf a5 g
  refine K (T (Mx [0,1] [7,10] (.step 0 0 (.step 1 0 (.step 2 0 (.step 3 0 (.step 4 1 (.step 5 1 (.step 6 2 (.step 7 3 (.step 8 0 (.step 9 0 (.step 10 3 .nil))))))))))) mixed (mixF_all (by kernel_rfl)) d (by decide) j fun w d hS=>H q 4 c j fun a c=>Dd hS c j j (Rw fun _=>(B q 1 j j j j)) j fun a c=>Dd hS c j j (Rw fun _=>(B q 0 j j j j)) j fun a c=>Df j (Bs ai_33 d c j j j j j fun a w dk c d=>?_)))
  have bp:RL bi 6 ([h.1].map TRelation.d) _:=(Rc (TRelation.inv.2 ⟨bf,bj,bg,bk,bh,bl,j,ch,ci,cj⟩) j Rn)
  refine De (d.sw [1,2] (by decide) j rf) fun hS=>Dl j ?_;obtain ⟨_,cz,g⟩:=bd g
  refine Ao (f:=TRelation.d) (xs:=h.2.2.Tables) (ys:=[h.1]) ai_33 3 0 d c j j j bp j j (Ll cz) j fun a w bx b5 c d=>?_;have cw:=Ra cv bp
  refine Dn (H q 2 c j fun a c=>Dl j (W q 2 d c j j j j j j j j j j fun a w c d=>Dn (Dz (xB (T (G (R q 3 c j fun a c=>E (T ?_))))))))
  cases g;have c:=c.setI (t:=8) j (Wc bb (Ln bm))
  exact ⟨l.length,Nat.lt_succ_self _,i448 + 1,l,_,bi,bx,b5,(b6 ++ [.string h.1.Name,i_ h.1.Rows,.slice bf h.1.Cols.length bj,.slice bg h.1.Key.length bk,i_ h.1.Hide,.slice bh h.1.When.length bl]),j,bb,aw,n,(ax.t c0),c.kp j,(d.pick [3,2,4] (by decide) j),cw⟩

theorem cl_5:Callable Tryz.prog 5:=⟨_,Tryz.func5,by kernel_rfl,by kernel_rfl⟩

def law09_Both.C (s:TSchema→Option ((Option Tschema_Catalog) × (Option Tref08_Catalog))):Prop:=∀ {g r},s g=some r→∀ {c b f},Inv c b [] b [] c→(Rep b g.d f)→Calls Tryz.prog 5 #[.agg ⟨f⟩] c (Ret c b [] fun G' L' v=>L'=[]∧∃ d e,v = .tuple ⟨[.pointer d,.pointer e]⟩∧Pt G' d 111 Tschema_Catalog.d r.1∧Pt G' e 36 Tref08_Catalog.d r.2)

theorem law09_Both.ok (k:Nat):law09_Both.C (law09_Both k):=by
  intro a5 r d ay an a4 f aq
  unfold law09_Both at d
  obtain ⟨l,z,o,aa,p,ab,m,x,n,y,rfl,ae,af,ag,ac,ad⟩:=TSchema.inv.1 aq
  refine Ci 33 Tryz.func5 j j j fun a c=>?_
  refine S (G (s_box f c j j j j fun a w a3 c f=>R q 2 c j fun a c=>E (T (S (S (G (L f c j (B q 0 j j j j) j fun a c=>?_)))))))
  obtain ⟨az,av,d⟩:=bd d;refine J cl_18 f c j j ((law08_Few.ok k) av f.pass0 (TSchema.inv.2 ⟨l,z,o,aa,p,ab,m,x,n,y,j,ae,af,ag,ac,ad⟩)) j ?_
  rintro a w _ a1 _ ⟨rfl,rfl⟩ g f c;refine R q 1 c j fun a c=>E (T (Cc (b:=!az) c j (fun ai=>?_) (fun ai=>?_)))
  · replace d:=ct ai d;refine S (G (R q 2 c j fun a c=>E (T (V (Xr ?_)))));cases d;refine N (v:=_) c j ⟨_,_,_,j,f.nil,j,none,none,j,Pn,Pn⟩
  replace d:=cf ai d;refine K (T (S (G (L f c j (B q 0 j j j j) j fun a c=>?_))));obtain ⟨a0,aw,d⟩:=bd d
  refine J cl_19 f c j j ((schema_New.ok k) aw f.pass0 (TSchema.inv.2 ⟨l,z,o,aa,p,ab,m,x,n,y,j,(ae.m g),(af.m g),(ag.m g),(ac.m g),(ad.m g)⟩)) j ?_
  rintro a w _ a2 _ ⟨rfl,al,rfl,ao⟩ i f c;refine R q 7 c j fun a c=>E (T (S (G (L f c j (B q 0 j j j j) j fun a c=>?_))));obtain ⟨a6,ax,d⟩:=bd d
  refine J cl_20 f c j j ((ref08_New.ok k) ax f.pass0 (TSchema.inv.2 ⟨l,z,o,aa,p,ab,m,x,n,y,j,(ae.m (g.t i)),(af.m (g.t i)),(ag.m (g.t i)),(ac.m (g.t i)),(ad.m (g.t i))⟩)) j ?_
  rintro a w _ s _ ⟨rfl,am,rfl,ap⟩ au f c;refine R q 7 c j fun a c=>E (T (S (S ?_)));obtain ⟨ak,d,ar⟩:=bd d
  refine X c f (fun e L a' w'=>∃ u,s.le u∧Env a' 33 (sl e [4,7] [(30,.bool ak)])∧Inv ay an [] u [] w') ?_ ?_
  · refine G (R q 3 c j fun a c=>?_);rcases Bo (!decide (a0.2.2=(0:Int))) with h | h
    · replace d:=ct h d;have c:=c.tr (t:=27) j h;refine R q 3 c j fun a c=>E (T ?_);cases d;exact ⟨s,rf,c.kp j,(f.dropN 1 j)⟩
    replace d:=cf h d;have c:=c.tr (t:=27) j h;refine R q 3 c j fun a c=>E (T ?_);cases d;exact ⟨s,rf,c.kp j,(f.dropN 1 j)⟩
  rintro a w ⟨u,aj,c,f⟩;have d:=ar;refine T (Cc (b:=ak) c j (fun ah=>?_) (fun ah=>?_))
  · replace d:=ct ah d;refine S (G (R q 2 c j fun a c=>E (T (V (Xr ?_)))));cases d;refine N (v:=_) c j ⟨_,_,_,j,f.nil,j,none,none,j,Pn,Pn⟩
  replace d:=cf ah d;refine K (T (S (G (R q 4 c j fun a c=>E (T (V ?_))))));cases d
  refine N (v:=_) c j ⟨_,_,_,j,f.nil,j,al,am,j,(ao.m (au.t aj)),(ap.m aj)⟩

theorem cl_10:Callable Tryz.prog 10:=⟨_,Tryz.func10,by kernel_rfl,by kernel_rfl⟩

def ref17_Column.C (s:(Option Tref08_Catalog)→Int→Int→Option Int):Prop:=∀ {e f g r},s e f g=some r→∀ {c b d},Inv c b [] b [] c→(Pt b d 36 Tref08_Catalog.d e)→Calls Tryz.prog 10 #[.pointer d,i_ f,i_ g] c (Ret c b [] fun G' L' v=>L'=[]∧v=i_ r)

theorem ref17_Column.ok (k:Nat):ref17_Column.C (ref17_Column k):=by
  intro bg bh bi r c bj ap ae d m
  unfold ref17_Column at c
  refine Ci 32 Tryz.func10 j j j fun a b=>?_
  refine S (G (R q 1 b j fun a b=>E (T (S (Cd mixed (by kernel_rfl) d (Y q 1 b j fun a b=>?_))))));rcases (m).cases with ⟨g,rfl⟩ | ⟨bk,aq,cs,g,rfl,u,f⟩
  · cases op_n g c
  replace c:=op_s g c;obtain ⟨af,ag,aw,ah,ax,ai,ay,rfl,n,i,a5,a6⟩:=Tref08_Catalog.inv.1 u
  refine Y q 2 b j fun a b=>Z b j (Fg q f 0 j j j j) j fun a b=>Y q 3 b j fun a b=>Z b j (Fg q f 1 j j j j) j fun a b=>Y q 1 b j fun a b=>?_
  obtain ⟨bl,e,c⟩:=bd c;obtain ⟨ar,bc,cs,aa,x,p⟩:=Sa i (Go e).1 (Go e).2;obtain ⟨aj,az,ak,a0,al,a1,rfl,a7,a8,a9⟩:=TRelation.inv.1 x
  refine Z b j (I q aa j j j) j fun a b=>Y q 1 b j fun a b=>Z b j (Fg q p 1 j j j j) j fun a b=>Y q 3 b j fun a b=>Z b j (Fg q f 1 j j j j) j fun a b=>Y q 1 b j fun a b=>?_
  obtain ⟨au,be,cs,ab,y,s⟩:=Sa i (Go e).1 (Go e).2;obtain ⟨am,a2,an,a3,ao,a4,rfl,o,ba,bb⟩:=TRelation.inv.1 y
  refine Z b j (I q ab j j j) j fun a b=>Y q 1 b j fun a b=>Z b j (Fg q s 2 j j j j) j fun a b=>Y q 1 b j fun a b=>?_
  obtain ⟨bm,l,c⟩:=bd c;obtain ⟨av,bf,cs,ac,z,t⟩:=Sa o (Go l).1 (Go l).2;obtain rfl:=TField.inv.1 z
  refine Z b j (I q ac j j j) j fun a b=>Y q 1 b j fun a b=>Z b j (Fg q t 3 j j j j) j fun a b=>?_;obtain ⟨bn,ad,c⟩:=bd c
  refine Qc cl_28 b j j (fun w d=>(ref03_Lattice_Join.ok k) ad d.pass0 n) (fun _ _ _ h=>h.2) j fun a b=>Y q 1 b j fun a b=>Qe ?_;intro w d;refine T (V ?_);cases c
  refine N (v:=_) b j ⟨_,_,_,j,d.nil,j,j⟩

theorem cl_11:Callable Tryz.prog 11:=⟨_,Tryz.func11,by kernel_rfl,by kernel_rfl⟩

def law22_alive.C (s:Option Bool):Prop:=∀ {r},s=some r→∀ {b c},Inv b c [] c [] b→Calls Tryz.prog 11 #[] b (Ret b c [] fun G' L' v=>L'=[]∧v = .bool r)

theorem law22_alive.ok (k:Nat):law22_alive.C (law22_alive k):=by
  intro r b e d c
  cases b
  exact yes_ok Kl_0_ok j c

theorem cl_51:Callable Tryz.prog 51:=⟨_,Tryz.func51,by kernel_rfl,by kernel_rfl⟩

def slices_Clone_api_Relation_api_Relation.C (s:(List TRelation)→Option (List TRelation)):Prop:=∀ {d r},s d=some r→∀ {c b f h},Inv c b [] b [] c→(Sl b f h 6 (d.map TRelation.d))→Calls Tryz.prog 51 #[.slice f d.length h] c (Ret c b [] fun G' L' v=>∃ e g i,L'=[.row (.slice e r.length g) 43 6 r.length i]∧v = .slice e r.length g∧RL G' 6 (r.map TRelation.d) i)

theorem slices_Clone_api_Relation_api_Relation.ok (k:Nat):slices_Clone_api_Relation_api_Relation.C (slices_Clone_api_Relation_api_Relation k):=by
  intro u r d aa e h z c g
  unfold slices_Clone_api_Relation_api_Relation at d
  refine Ci 8 Tryz.func51 j j j fun a b=>?_
  refine S (G (R q 1 b j fun a b=>E (T (S (S (G (R q 1 b j fun a b=>?_)))))));rcases h with _ | x
  · obtain rfl:=(g).nil0;have d:some []=some r:=d;cases d
    refine L c b j (f_slnil q j j j j) j fun a b=>E (T (Tr b j (S (G (R q 1 b j fun a b=>E (T ?_))))));have c:=c.nilrow 43 6
    have s:RL e 6 (([]:List TRelation).map TRelation.d) []:=Rn;refine V (Xr (N (v:=_) b j ⟨_,_,_,j,c,none,0,[],j,j,s⟩))
  refine L c b j (f_slnil q j j j j) j fun a b=>E (T (Fa b j (K (T (S (G (Bs ai_33 c b j j j j j fun a w y b c=>?_)))))))
  have n:RL e 6 (([]:List TRelation).map TRelation.d) []:=Rn;refine R q 1 b j fun a b=>?_;obtain ⟨_,t,d⟩:=bd d
  refine s_appG (f:=TRelation.d) (xs:=([]:List TRelation)) (ys:=u) ai_33 0 c b j j g j j (Ll t) j fun a w i l m b p c=>?_;have o:=Ra n p
  refine R q 1 b j fun a b=>E (T (V ?_));cases d;refine N (v:=_) b j ⟨_,_,_,j,c,i,l,([] ++ m),j,j,o⟩

theorem cl_52:Callable Tryz.prog 52:=⟨_,Tryz.func52,by kernel_rfl,by kernel_rfl⟩

def slices_Clone_api_Field_api_Field.C (s:(List TField)→Option (List TField)):Prop:=∀ {d r},s d=some r→∀ {c b f h},Inv c b [] b [] c→(Sl b f h 4 (d.map TField.d))→Calls Tryz.prog 52 #[.slice f d.length h] c (Ret c b [] fun G' L' v=>L'=[]∧∃ e g,v = .slice e r.length g∧Sl G' e g 4 (r.map TField.d))

theorem slices_Clone_api_Field_api_Field.ok (k:Nat):slices_Clone_api_Field_api_Field.C (slices_Clone_api_Field_api_Field k):=by
  intro g r d ac l h z c e
  unfold slices_Clone_api_Field_api_Field at d
  refine Ci 8 Tryz.func52 j j j fun a b=>?_
  refine S (G (R q 1 b j fun a b=>E (T (S (S (G (R q 1 b j fun a b=>?_)))))));rcases h with _ | x
  · obtain rfl:=(e).nil0;have d:some []=some r:=d;cases d
    refine L c b j (f_slnil q j j j j) j fun a b=>E (T (Tr b j (S (G (R q 1 b j fun a b=>E (T (V (Xr (N (v:=_) b j ⟨_,_,_,j,c.nil,j,none,0,j,(Sn _ _ _ _ (Nat.zero_le _))⟩)))))))))
  refine L c b j (f_slnil q j j j j) j fun a b=>E (T (Fa b j (K (T (S (G (Bs ai_39 c b j j j j j fun a w y b c=>?_)))))))
  have o:RL l 4 (([]:List TField).map TField.d) []:=Rn;refine R q 1 b j fun a b=>?_;obtain ⟨_,t,d⟩:=bd d
  refine s_appG (f:=TField.d) (xs:=([]:List TField)) (ys:=g) ai_39 0 c b j j e j j (Ll t) j fun a w i m aa b s c=>?_;have p:=Ra o s
  refine R q 1 b j fun a b=>E (T ?_);obtain ⟨u,ab,c,n⟩:=(c.front 0).giveR (xs:=(([]:List TField) ++ g).map TField.d) (by simp) p;refine V ?_;cases d
  refine N (v:=_) b j ⟨_,_,_,j,c.nil,j,i,m,j,n⟩

theorem cl_53:Callable Tryz.prog 53:=⟨_,Tryz.func53,by kernel_rfl,by kernel_rfl⟩

def slices_Clone_int_int.C (s:(List Int)→Option (List Int)):Prop:=∀ {d r},s d=some r→∀ {c b f h},Inv c b [] b [] c→(Sl b f h 1 (d.map di))→Calls Tryz.prog 53 #[.slice f d.length h] c (Ret c b [] fun G' L' v=>∃ e g i,L'=[.row (.slice e r.length g) 3 1 r.length i]∧v = .slice e r.length g∧RL G' 1 (r.map di) i)

theorem slices_Clone_int_int.ok (k:Nat):slices_Clone_int_int.C (slices_Clone_int_int k):=by
  intro u r d aa e h z c g
  unfold slices_Clone_int_int at d
  refine Ci 8 Tryz.func53 j j j fun a b=>?_
  refine S (G (R q 1 b j fun a b=>E (T (S (S (G (R q 1 b j fun a b=>?_)))))));rcases h with _ | x
  · obtain rfl:=(g).nil0;have d:some []=some r:=d;cases d
    refine L c b j (f_slnil q j j j j) j fun a b=>E (T (Tr b j (S (G (R q 1 b j fun a b=>E (T ?_))))));have c:=c.nilrow 3 1
    have s:RL e 1 (([]:List Int).map di) []:=Rn;refine V (Xr (N (v:=_) b j ⟨_,_,_,j,c,none,0,[],j,j,s⟩))
  refine L c b j (f_slnil q j j j j) j fun a b=>E (T (Fa b j (K (T (S (G (Bs ai_40 c b j j j j j fun a w y b c=>?_)))))))
  have n:RL e 1 (([]:List Int).map di) []:=Rn;refine R q 1 b j fun a b=>?_;obtain ⟨_,t,d⟩:=bd d
  refine s_appG (f:=di) (xs:=([]:List Int)) (ys:=u) ai_40 0 c b j j g j j (Ll t) j fun a w i l m b p c=>?_;have o:=Ra n p
  refine R q 1 b j fun a b=>E (T (V ?_));cases d;refine N (v:=_) b j ⟨_,_,_,j,c,i,l,([] ++ m),j,j,o⟩

theorem cl_25:Callable Tryz.prog 25:=⟨_,Tryz.func25,by kernel_rfl,by kernel_rfl⟩

def schema_Catalog_Tables.C (s:(Option Tschema_Catalog)→Option (List TRelation)):Prop:=∀ {g r},s g=some r→∀ {c b e},Inv c b [] b [] c→(Pt b e 111 Tschema_Catalog.d g)→Calls Tryz.prog 25 #[.pointer e] c (Ret c b [] fun G' L' v=>L'=[]∧∃ d f,v = .slice d r.length f∧Sl G' d f 6 (r.map TRelation.d))

theorem schema_Catalog_Tables.ok (k:Nat):schema_Catalog_Tables.C (schema_Catalog_Tables k):=by
  intro c5 r i bp bk c6 h bm
  unfold schema_Catalog_Tables at i
  refine Ci 43 Tryz.func25 j j j fun a d=>?_
  
  refine S (G (R q 1 d j fun a d=>E (T (S (S (G (R q 1 d j fun a d=>L h d j (f_pnil up_27 bm j j) j fun a d=>E (T (Cc (b:=c5.isNone) d j (fun bg=>?_) (fun bg=>?_))))))))))
  · replace i:=ct bg i;refine S (G (R q 1 d j fun a d=>E (T (V (Xr ?_)))));cases i
    refine N (v:=_) d j ⟨_,_,_,j,h.nil,j,none,0,j,(Sn _ _ _ _ (Nat.zero_le _))⟩
  replace i:=cf bg i;refine K (T (S (G (R q 1 d j fun a d=>?_))));rcases (bm).cases with ⟨bi,rfl⟩ | ⟨ej,dm,cs,bi,rfl,cc,ca⟩
  · cases op_n bi i
  replace i:=op_s bi i;obtain ⟨c7,c8,dp,c9,da,dq,db,dr,rfl,d4,bv,d5,d6,d7⟩:=Tschema_Catalog.inv.1 cc
  refine R q 2 d j fun a d=>L h d j (Fg q ca 1 j j j j) j fun a d=>?_;obtain ⟨bj,c1,i⟩:=bd i
  refine J cl_51 h d j j ((slices_Clone_api_Relation_api_Relation.ok k) c1 h.pass0 bv) j ?_;rintro a w _ a8 _ ⟨bq,bt,bu,rfl,rfl,cd⟩ ec h d
  refine R q 1 d j fun a d=>E (T (S (S (G (R q 3 d j fun a d=>E (T ?_))))));have cr:=h.rle (xs:=bj) 0 j;obtain ⟨bo,ab,cb⟩:=bd i
  refine X d h (fun e L a' w'=>∃ z az av a0 bc,bo = .go z∧a8.le az∧Env a' 43 [(3,.slice av z.length a0)]∧Inv bp bk [] az [.row (.slice av z.length a0) 43 6 z.length bc] w'∧RL az 6 (z.map TRelation.d) bc) ?_ ?_
  rotate_left
  · rintro a w ⟨z,az,av,a0,bc,rfl,ed,d,h,ce⟩;have i:=Lg cb;refine T (S (G (R q 2 d j fun a d=>E (T ?_))))
    obtain ⟨dj,ee,h,bw⟩:=(h.front 0).giveR (xs:=z.map TRelation.d) (by simp) ce;refine V ?_;cases i;refine N (v:=_) d j ⟨_,_,_,j,h.nil,j,av,a0,j,bw⟩
  
  refine O (Q d h (fun e L n' a' w'=>∃ i525 u l aj af aa p,n'=List.length u∧i525≤bj.length∧bj.drop i525=u∧forL (schema_Catalog_Tables.b0 k) i525 u l=some bo∧a8.le aj∧Env a' 43 (sl e [14] [(15,i_ (i525:Int)),(3,.slice af l.length aa),(13,.slice af l.length aa)])∧Inv bp bk [] aj [.row (.slice af l.length aa) 43 6 l.length p] w'∧RL aj 6 (l.map TRelation.d) p) _ ⟨0,_,_,a8,bq,bt,bu,j,Nat.zero_le _,j,ab,rf,d.kp j,h,cd⟩ ?_)
  rintro eg a w ⟨i525,u,l,aj,af,aa,p,rfl,cq,a4,ab,bn,d,h,ac⟩;rcases u with _ | ⟨ei,u⟩
  · obtain rfl:=Fn ab;have bh:=Do a4 cq;refine S (G (R q 1 d j fun a d=>E (T (S ?_))));have d:=d.tr (t:=16) j (decide_eq_false (by omega))
    refine Fa d j (Ex (Xe (Xe (Xh (T (⟨_,aj,af,aa,p,j,bn,d.kp j,h,ac⟩))))))
  obtain ⟨eh,i,ab⟩:=Fs ab;obtain ⟨ef,a4,bh⟩:=Dc a4;unfold schema_Catalog_Tables.b0 at i;refine S (G (R q 1 d j fun a d=>E (T (S ?_))))
  have d:=d.tr (t:=16) j (decide_eq_true (by omega));refine Tr d j (K (T (S (O (S (G (R q 1 d j fun a d=>?_)))))));obtain ⟨ek,ap,i⟩:=bd i
  obtain ⟨ak,rfl⟩:=row_ptr 0 h j j (Go ap).2;obtain ⟨d0,eb,cx,cj⟩:=Rt ac (Go ap).2
  obtain ⟨dc,ds,dd,dt,de,du,rfl,bx,bz,b0⟩:=TRelation.inv.1 cx
  refine L h d j (I q (Ro (Go ap).1 (Go ap).2 ak 6) j j j) j fun a d=>L h d j (f_loadR q 0 j cj 0 j j j j (Rl ac (Go ap).2)) j fun a d=>A h d j z_43 j j fun a w dn d h=>R q 1 d j fun a d=>W q 0 h d j j j j j j j j j j fun a w d h=>E (T (Mx [0] [14,17,20,23] (.step 0 0 (.step 1 0 (.step 2 0 (.step 3 0 (.step 4 0 (.step 5 0 (.step 6 0 (.step 7 1 (.step 9 0 (.step 10 1 (.step 12 0 (.step 13 1 (.step 8 2 (.step 11 2 (.step 14 3 (.step 15 0 (.step 16 0 (.step 17 3 (.step 18 0 (.step 19 0 (.step 20 3 (.step 21 0 (.step 22 0 (.step 23 3 .nil)))))))))))))))))))))))) mixed (mixF_all (by kernel_rfl)) h (by decide) j fun w h hS=>H q 7 d j fun a d=>Dd hS d j j (Rw fun _=>(B q 0 j j j j)) j fun a d=>H q 1 d j fun a d=>Dd hS d j j (Rw fun _=>(B q 0 j j j j)) j fun a d=>H q 1 d j fun a d=>Dd hS d j j (Rw fun _=>(B q 0 j j j j)) j fun a d=>Df j ?_))
  obtain ⟨m,c2,i⟩:=bd i;refine J cl_52 h d j j ((slices_Clone_api_Field_api_Field.ok k) c2 h.pass0 bx) j ?_;rintro a w _ dk _ ⟨rfl,ag,al,rfl,b1⟩ s h d
  refine De (h.sw [0] (by decide) j s) fun hS=>Df j ?_;obtain ⟨n,c3,i⟩:=bd i;refine J cl_53 h d j j ((slices_Clone_int_int.ok k) c3 h.pass0 (bz.m s)) j ?_
  rintro a w _ dl _ ⟨aw,a1,dy,rfl,rfl,cg⟩ y h d;refine De (h.sw [1] (by decide) j (s.t y)) fun hS=>Dl j ?_;obtain ⟨o,c4,i⟩:=bd i
  refine J cl_54 h d j j ((slices_Clone_api_Expr_api_Expr.ok k) c4 h.pass0 (b0.m (s.t y))) j ?_;rintro a w _ br _ ⟨a5,a9,dz,rfl,rfl,ch⟩ ad h d;refine Dn ?_
  obtain ⟨c,aq,i⟩:=bd i;obtain ⟨d1,cn,cy,ck⟩:=Rt (ac.m ((s.t y).t ad)) (Go aq).2
  obtain ⟨df,dv,ah,am,ai,an,rfl,d8,b2,b3⟩:=TRelation.inv.1 cy
  refine Dr d j j (I q (Ro (Go aq).1 (Go aq).2 ak 6) j j j) j fun a d=>H q 1 d j fun a d=>Dl j (s_storeS (xs:=l) (j:=(i525:Int)) (y':=(TRelation.mk c.Name c.Rows m c.Key c.Hide c.When)) q 3 h d j j ck cn (Rl (ac.m ((s.t y).t ad)) (Go aq).2) 2 j j j j j j j j fun a w d cu h=>?_)
  have be:RL br 6 ((setO l (i525:Int) (TRelation.mk c.Name c.Rows m c.Key c.Hide c.When)).map TRelation.d) (putAt p ((i525:Int).toNat * 6) [.string c.Name,i_ c.Rows,.slice ag m.length al,.slice ah c.Key.length am,i_ c.Hide,.slice ai c.When.length an]):=RL.set (ac.m ((s.t y).t ad)) (row_lt (Go aq).2) ((TRelation.inv (x:=(TRelation.mk c.Name c.Rows m c.Key c.Hide c.When))).2 ⟨ag,al,ah,am,ai,an,j,(b1.m (y.t ad)),b2,b3⟩) cu
  have d:=d.setV (t:=3) j (Ss (xs:=l) (j:=(i525:Int)) (y':=(TRelation.mk c.Name c.Rows m c.Key c.Hide c.When)))
  have d:=d.setV (t:=13) j (Ss (xs:=l) (j:=(i525:Int)) (y':=(TRelation.mk c.Name c.Rows m c.Key c.Hide c.When)))
  have d:=d.setV (t:=20) j (Ss (xs:=l) (j:=(i525:Int)) (y':=(TRelation.mk c.Name c.Rows m c.Key c.Hide c.When)))
  have d:=d.setV (t:=22) j (Ss (xs:=l) (j:=(i525:Int)) (y':=(TRelation.mk c.Name c.Rows m c.Key c.Hide c.When)))
  have d:=d.setV (t:=24) j (Ss (xs:=l) (j:=(i525:Int)) (y':=(TRelation.mk c.Name c.Rows m c.Key c.Hide c.When)));refine Dn ?_;obtain ⟨f,ar,i⟩:=bd i
  obtain ⟨d2,co,cz,cl⟩:=Rt be (Go ar).2;obtain ⟨ax,a2,dg,dw,ay,a3,rfl,b4,d9,b5⟩:=TRelation.inv.1 cz
  refine Dr d j j (I q (Ro (Go ar).1 (Go ar).2 ak 6) j j j) j fun a d=>H q 1 d j fun a d=>Dl j ?_
  obtain ⟨bs,ae,h,b6⟩:=(h.front 1).giveR (xs:=n.map di) (by simp) (cg.m ad)
  refine s_storeS (xs:=(setO l (i525:Int) (TRelation.mk c.Name c.Rows m c.Key c.Hide c.When))) (j:=(i525:Int)) (y':=(TRelation.mk f.Name f.Rows f.Cols n f.Hide f.When)) q 2 h d j j cl co (Rl (be.m ae) (Go ar).2) 3 j j j j j j j j fun a w d cv h=>?_
  have bf:RL bs 6 ((setO (setO l (i525:Int) (TRelation.mk c.Name c.Rows m c.Key c.Hide c.When)) (i525:Int) (TRelation.mk f.Name f.Rows f.Cols n f.Hide f.When)).map TRelation.d) (putAt (putAt p ((i525:Int).toNat * 6) [.string c.Name,i_ c.Rows,.slice ag m.length al,.slice ah c.Key.length am,i_ c.Hide,.slice ai c.When.length an]) ((i525:Int).toNat * 6) [.string f.Name,i_ f.Rows,.slice ax f.Cols.length a2,.slice aw n.length a1,i_ f.Hide,.slice ay f.When.length a3]):=RL.set (be.m ae) (row_lt (Go ar).2) ((TRelation.inv (x:=(TRelation.mk f.Name f.Rows f.Cols n f.Hide f.When))).2 ⟨ax,a2,aw,a1,ay,a3,j,(b4.m ae),b6,(b5.m ae)⟩) cv
  have d:=d.setV (t:=3) j (Ss (xs:=(setO l (i525:Int) (TRelation.mk c.Name c.Rows m c.Key c.Hide c.When))) (j:=(i525:Int)) (y':=(TRelation.mk f.Name f.Rows f.Cols n f.Hide f.When)))
  have d:=d.setV (t:=13) j (Ss (xs:=(setO l (i525:Int) (TRelation.mk c.Name c.Rows m c.Key c.Hide c.When))) (j:=(i525:Int)) (y':=(TRelation.mk f.Name f.Rows f.Cols n f.Hide f.When)))
  have d:=d.setV (t:=20) j (Ss (xs:=(setO l (i525:Int) (TRelation.mk c.Name c.Rows m c.Key c.Hide c.When))) (j:=(i525:Int)) (y':=(TRelation.mk f.Name f.Rows f.Cols n f.Hide f.When)))
  have d:=d.setV (t:=22) j (Ss (xs:=(setO l (i525:Int) (TRelation.mk c.Name c.Rows m c.Key c.Hide c.When))) (j:=(i525:Int)) (y':=(TRelation.mk f.Name f.Rows f.Cols n f.Hide f.When)))
  have d:=d.setV (t:=24) j (Ss (xs:=(setO l (i525:Int) (TRelation.mk c.Name c.Rows m c.Key c.Hide c.When))) (j:=(i525:Int)) (y':=(TRelation.mk f.Name f.Rows f.Cols n f.Hide f.When)))
  refine Dn ?_;obtain ⟨g,au,i⟩:=bd i;obtain ⟨d3,cp,c0,cm⟩:=Rt bf (Go au).2
  obtain ⟨a6,ba,a7,bb,dh,dx,rfl,b7,b8,ea⟩:=TRelation.inv.1 c0
  refine Dr d j j (I q (Ro (Go au).1 (Go au).2 ak 6) j j j) j fun a d=>H q 1 d j fun a d=>Dl j ?_
  obtain ⟨bl,ao,h,b9⟩:=(h.front 0).giveR (xs:=o.map TExpr.d) (by simp) (ch.m ae)
  refine s_storeS (xs:=(setO (setO l (i525:Int) (TRelation.mk c.Name c.Rows m c.Key c.Hide c.When)) (i525:Int) (TRelation.mk f.Name f.Rows f.Cols n f.Hide f.When))) (j:=(i525:Int)) (y':=(TRelation.mk g.Name g.Rows g.Cols g.Key g.Hide o)) q 1 h d j j cm cp (Rl (bf.m ao) (Go au).2) 5 j j j j j j j j fun a w d cw h=>?_
  have ci:RL bl 6 ((setO (setO (setO l (i525:Int) (TRelation.mk c.Name c.Rows m c.Key c.Hide c.When)) (i525:Int) (TRelation.mk f.Name f.Rows f.Cols n f.Hide f.When)) (i525:Int) (TRelation.mk g.Name g.Rows g.Cols g.Key g.Hide o)).map TRelation.d) (putAt (putAt (putAt p ((i525:Int).toNat * 6) [.string c.Name,i_ c.Rows,.slice ag m.length al,.slice ah c.Key.length am,i_ c.Hide,.slice ai c.When.length an]) ((i525:Int).toNat * 6) [.string f.Name,i_ f.Rows,.slice ax f.Cols.length a2,.slice aw n.length a1,i_ f.Hide,.slice ay f.When.length a3]) ((i525:Int).toNat * 6) [.string g.Name,i_ g.Rows,.slice a6 g.Cols.length ba,.slice a7 g.Key.length bb,i_ g.Hide,.slice a5 o.length a9]):=RL.set (bf.m ao) (row_lt (Go au).2) ((TRelation.inv (x:=(TRelation.mk g.Name g.Rows g.Cols g.Key g.Hide o))).2 ⟨a6,ba,a7,bb,a5,a9,j,(b7.m ao),(b8.m ao),b9⟩) cw
  have d:=d.setV (t:=3) j (Ss (xs:=(setO (setO l (i525:Int) (TRelation.mk c.Name c.Rows m c.Key c.Hide c.When)) (i525:Int) (TRelation.mk f.Name f.Rows f.Cols n f.Hide f.When))) (j:=(i525:Int)) (y':=(TRelation.mk g.Name g.Rows g.Cols g.Key g.Hide o)))
  have d:=d.setV (t:=13) j (Ss (xs:=(setO (setO l (i525:Int) (TRelation.mk c.Name c.Rows m c.Key c.Hide c.When)) (i525:Int) (TRelation.mk f.Name f.Rows f.Cols n f.Hide f.When))) (j:=(i525:Int)) (y':=(TRelation.mk g.Name g.Rows g.Cols g.Key g.Hide o)))
  have d:=d.setV (t:=20) j (Ss (xs:=(setO (setO l (i525:Int) (TRelation.mk c.Name c.Rows m c.Key c.Hide c.When)) (i525:Int) (TRelation.mk f.Name f.Rows f.Cols n f.Hide f.When))) (j:=(i525:Int)) (y':=(TRelation.mk g.Name g.Rows g.Cols g.Key g.Hide o)))
  have d:=d.setV (t:=22) j (Ss (xs:=(setO (setO l (i525:Int) (TRelation.mk c.Name c.Rows m c.Key c.Hide c.When)) (i525:Int) (TRelation.mk f.Name f.Rows f.Cols n f.Hide f.When))) (j:=(i525:Int)) (y':=(TRelation.mk g.Name g.Rows g.Cols g.Key g.Hide o)))
  have d:=d.setV (t:=24) j (Ss (xs:=(setO (setO l (i525:Int) (TRelation.mk c.Name c.Rows m c.Key c.Hide c.When)) (i525:Int) (TRelation.mk f.Name f.Rows f.Cols n f.Hide f.When))) (j:=(i525:Int)) (y':=(TRelation.mk g.Name g.Rows g.Cols g.Key g.Hide o)))
  refine Dn (Dz (xB (T (G (R q 2 d j fun a d=>E (T ?_))))));cases i;have d:=d.setI (t:=15) j (Wc bh cr)
  exact ⟨u.length,Nat.lt_succ_self _,i525 + 1,u,_,bl,(p_ ak),aa,(putAt (putAt (putAt p ((i525:Int).toNat * 6) [.string c.Name,i_ c.Rows,.slice ag m.length al,.slice ah c.Key.length am,i_ c.Hide,.slice ai c.When.length an]) ((i525:Int).toNat * 6) [.string f.Name,i_ f.Rows,.slice ax f.Cols.length a2,.slice aw n.length a1,i_ f.Hide,.slice ay f.When.length a3]) ((i525:Int).toNat * 6) [.string g.Name,i_ g.Rows,.slice a6 g.Cols.length ba,.slice a7 g.Key.length bb,i_ g.Hide,.slice a5 o.length a9]),j,bh,a4,ab,(((((bn.t s).t y).t ad).t ae).t ao),d.kp j,(h.dropN 1 j),ci⟩

theorem cl_35:Callable Tryz.prog 35:=⟨_,Tryz.func35,by kernel_rfl,by kernel_rfl⟩

def schema_Catalog_Lattice.C (s:(Option Tschema_Catalog)→Option (Option Tlattice_Lattice)):Prop:=∀ {f r},s f=some r→∀ {c b e},Inv c b [] b [] c→(Pt b e 111 Tschema_Catalog.d f)→Calls Tryz.prog 35 #[.pointer e] c (Ret c b [] fun G' L' v=>L'=[]∧∃ d,v = .pointer d∧Pt G' d 160 Tlattice_Lattice.d r)

theorem schema_Catalog_Lattice.ok (k:Nat):schema_Catalog_Lattice.C (schema_Catalog_Lattice k):=by
  intro o r d ah y p e h
  unfold schema_Catalog_Lattice at d
  refine Ci 9 Tryz.func35 j j j fun a c=>?_
  
  refine S (G (R q 1 c j fun a c=>E (T (S (S (G (R q 1 c j fun a c=>L e c j (f_pnil up_27 h j j) j fun a c=>E (T (Cc (b:=o.isNone) c j (fun f=>?_) (fun f=>?_))))))))))
  · replace d:=ct f d;refine S (G (R q 1 c j fun a c=>E (T (V (Xr ?_)))));cases d;refine N (v:=_) c j ⟨_,_,_,j,e.nil,j,none,j,Pn⟩
  replace d:=cf f d;refine K (T (S (G (R q 1 c j fun a c=>?_))));rcases (h).cases with ⟨g,rfl⟩ | ⟨ai,z,cs,g,rfl,n,m⟩
  · cases op_n g d
  replace d:=op_s g d;obtain ⟨i,s,aa,t,u,ab,x,ac,rfl,l,ad,ae,af,ag⟩:=Tschema_Catalog.inv.1 n
  refine R q 2 c j fun a c=>L e c j (Fg q m 0 j j j j) j fun a c=>R q 1 c j fun a c=>E (T (V ?_));cases d
  refine N (v:=_) c j ⟨_,_,_,j,e.nil,j,i,j,l⟩
end Go.Proofs.YtknhbphhdfknaaaGreatDoor
