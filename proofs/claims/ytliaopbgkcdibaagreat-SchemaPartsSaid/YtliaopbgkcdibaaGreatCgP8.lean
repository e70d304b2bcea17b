/- The contracts: what the machine does at a call is what the plain function says. Written by mk.py. -/
import Derived.Test.YtliaopbgkcdibaaGreatCgP7
set_option linter.unusedVariables false
set_option linter.unusedSimpArgs false
set_option maxRecDepth 100000
namespace Go.Proofs.YtliaopbgkcdibaaGreat
open Go.RowKit
theorem ref06_P_name.ok (k:Nat):ref06_P_name.C (ref06_P_name k):=by
  intro am r d an g y ar ap ax f m
  unfold ref06_P_name at d
  refine Ci 57 Tryz.func63 j j j fun a c=>?_
  refine S (G (R q 1 c j fun a c=>E (T (S (S ?_)))));obtain ⟨x,d,ad⟩:=bd d
  refine X c f (fun e L a' w'=>∃ o,g.le o∧Env a' 57 (sl e [0] [(35,.bool x)])∧Inv an g y o L w') ?_ ?_;rotate_left
  · rintro a w ⟨o,s,c,f⟩;have d:=ad;refine T (Cc (b:=x) c j (fun p=>?_) (fun p=>?_))
    · replace d:=ct p d;refine S (G (R q 1 c j fun a c=>?_));obtain ⟨a2,ak,d⟩:=bd d;refine M 1 cl_68 f c j j (fun ac=>(ref06_P_bad.ok k) ak ac (m.m s)) j ?_
      rintro a w _ aq _ ⟨rfl,rfl⟩ ay f c;refine E (T (S (G (R q 1 c j fun a c=>E (T (V (Xr ?_)))))));cases d;refine N (v:=_) c j ⟨_,_,_,j,f,j,j⟩
    replace d:=cf p d
    refine K (T (S (G (R q 3 c j fun a c=>L f c j (B q 0 j j j j) j fun a c=>R q 3 c j fun a c=>W q 0 f c j j j j j j j j j j fun a w c f=>E (T (S (Cd mixed (by kernel_rfl) f (Y q 3 c j fun a c=>Z c j (B q 0 j j j j) j fun a c=>Y q 3 c j fun a c=>Z c j (B q 0 j j j j) j fun a c=>Y q 1 c j fun a c=>?_))))))))
    obtain ⟨a3,u,d⟩:=bd d;obtain ⟨au,az,cs,ah,ae,z⟩:=Sa (m.m s) (Go u).1 (Go u).2;obtain rfl:=TToken.inv.1 ae
    refine Z c j (I q ah j j j) j fun a c=>Y q 1 c j fun a c=>Z c j (Fg q z 1 j j j j) j fun a c=>Y q 1 c j fun a c=>Qe ?_;intro w f
    refine T (V ?_);cases d;refine N (v:=_) c j ⟨_,_,_,j,f,j,j⟩
  refine Cd mixed (by kernel_rfl) f (Y q 3 c j fun a c=>Z c j (B q 0 j j j j) j fun a c=>Y q 2 c j fun a c=>?_)
  rcases Bo (!decide (am.E=(0:Int))) with i | i
  · replace d:=ct i d;have c:=c.tr (t:=8) j i;refine Y q 27 c j fun a c=>Qe ?_;intro w f;refine T ?_;cases d;exact ⟨g,rf,c.kp j,f⟩
  replace d:=cf i d;have c:=c.tr (t:=8) j i
  refine Y q 3 c j fun a c=>Z c j (B q 0 j j j j) j fun a c=>Y q 3 c j fun a c=>Z c j (B q 0 j j j j) j fun a c=>?_
  obtain ⟨ao,n,d⟩:=bd d;obtain ⟨av,a0,cs,ai,af,aa⟩:=Sa m (Go n).1 (Go n).2;obtain rfl:=TToken.inv.1 af
  refine Z c j (I q ai j j j) j fun a c=>Y q 1 c j fun a c=>Z c j (Fg q aa 0 j j j j) j fun a c=>Y q 3 c j fun a c=>?_
  rcases Bo (!decide (ao.Kind=(1:Int))) with l | l
  · replace d:=ct l d;have c:=c.tr (t:=22) j l;refine Y q 13 c j fun a c=>Qe ?_;intro w f;refine T ?_;cases d;exact ⟨g,rf,c.kp j,f⟩
  replace d:=cf l d;have c:=c.tr (t:=22) j l
  refine Y q 3 c j fun a c=>Z c j (B q 0 j j j j) j fun a c=>Y q 3 c j fun a c=>Z c j (B q 0 j j j j) j fun a c=>?_
  obtain ⟨aw,a1,cs,aj,ag,ab⟩:=Sa m (Go n).1 (Go n).2;obtain rfl:=TToken.inv.1 ag
  refine Z c j (I q aj j j j) j fun a c=>Y q 1 c j fun a c=>Z c j (Fg q ab 1 j j j j) j fun a c=>?_;obtain ⟨a4,al,d⟩:=bd d
  refine Qc cl_79 c j j (fun w f=>(ref05_Word.ok k) al f.pass0 ) (fun _ _ _ h=>h.2) j fun a c=>Y q 1 c j fun a c=>Qe ?_;intro w f;refine T ?_;cases d
  exact ⟨g,rf,c.kp j,f⟩

theorem cl_62:Callable Tryz.prog 62:=⟨_,Tryz.func62,by kernel_rfl,by kernel_rfl⟩

def ref06_P_names.C (s:Tref06_P→Option ((List ByteArray) × Tref06_P)):Prop:=∀ {b r},s b=some r→∀ {d c i f e g},Inv d c i c [.blk f [.slice e b.T.length g,i_ b.I,i_ b.Deep,i_ b.At,i_ b.E] 105] d→(Sl c e g 4 (b.T.map TToken.d))→Calls Tryz.prog 62 #[(P f)] d (Ret d c i fun G' L' v=>∃ h l,L'=[.blk f [.slice e b.T.length g,i_ r.2.I,i_ b.Deep,i_ r.2.At,i_ r.2.E] 105]∧v = .slice h r.1.length l∧Sl G' h l 1 (r.1.map D.str))

theorem ref06_P_names.ok (k:Nat):ref06_P_names.C (ref06_P_names k):=by
  intro p r g au aj ai al ah am d ad
  unfold ref06_P_names at g
  refine Ci 15 Tryz.func62 j j j fun a c=>?_
  refine S (G (R q 1 c j fun a c=>E (T (S (G (R q 1 c j fun a c=>?_))))));obtain ⟨av,a8,g⟩:=bd g
  refine M 1 cl_63 d c j j (fun n=>(ref06_P_name.ok k) a8 n ad) j ?_;rintro a w _ y _ ⟨rfl,rfl⟩ aq d c;refine Bs ai_22 d c j j j j j fun a w ay c d=>?_
  have a3:RL y 1 ([av.1].map D.str) _:=(Rc (rep_str.2 j) j Rn);refine R q 1 c j fun a c=>E (T (S ?_));obtain ⟨ar,l,a1⟩:=bd g
  refine X c d (fun e L a' w'=>∃ h u s z ac,ar = .go h∧y.le u∧Env a' 15 [(3,.slice s h.1.length z)]∧Inv au aj ai u [.row (.slice s h.1.length z) 9 1 h.1.length ac,.blk al [.slice ah p.T.length am,i_ h.2.1,i_ p.Deep,i_ h.2.2.1,i_ h.2.2.2] 105] w'∧RL u 1 (h.1.map D.str) ac) ?_ ?_
  rotate_left
  · rintro a w ⟨h,u,s,z,ac,rfl,bc,c,d,a2⟩;have g:=Lg a1;refine T (S (G (R q 2 c j fun a c=>E (T ?_))))
    obtain ⟨ba,be,d,a0⟩:=(d.front 0).giveR (xs:=h.1.map D.str) (by simp) a2;refine V ?_;cases g;refine N (v:=_) c j ⟨_,_,_,j,d,s,z,j,j,a0⟩
  
  refine O (Q c d (fun e L n' a' w'=>∃ i x t aa m,whileL (ref06_P_names.b0 k p) n' i=some ar∧y.le x∧Env a' 15 (sl e [0] [(3,.slice t i.1.length aa)])∧Inv au aj ai x [.row (.slice t i.1.length aa) 9 1 i.1.length m,.blk al [.slice ah p.T.length am,i_ i.2.1,i_ p.Deep,i_ i.2.2.1,i_ i.2.2.2] 105] w'∧RL x 1 (i.1.map D.str) m) _ ⟨_,y,(p_ ay),1,[.string av.1],l,rf,c.kp j,d,a3⟩ ?_)
  rintro af a w ⟨i,x,t,aa,m,l,ab,c,d,ao⟩;rcases af with _ | af
  · cases l
  obtain ⟨bf,g,l⟩:=Wh l;unfold ref06_P_names.b0 at g;refine S (S (G (R q 1 c j fun a c=>?_)));have d:=d.pick [1,0] (by decide) j;obtain ⟨a9,a6,g⟩:=bd g
  refine M 1 cl_61 d c j j (fun n=>(ref06_P_take.ok k) a6 n (ad.m (aq.t ab))) j ?_;rintro a w _ ax _ ⟨rfl,rfl⟩ o d c
  refine E (T (Cc (b:=a9.1) c j (fun ae=>?_) (fun ae=>?_)));rotate_left
  · replace g:=cf ae g;refine Ex (Xe (Xe (Xh (T ?_))));cases g;obtain rfl:=Wb l
    exact ⟨_,ax,t,aa,m,j,(ab.t o),c.kp j,(d.pick [1,0] (by decide) j),(ao.m o)⟩
  replace g:=ct ae g;refine K (T (O (G (R q 2 c j fun a c=>?_))));obtain ⟨ag,a7,g⟩:=bd g
  refine M 1 cl_63 d c j j (fun n=>(ref06_P_name.ok k) a7 n (ad.m ((aq.t ab).t o))) j ?_;rintro a w _ ak _ ⟨rfl,rfl⟩ ap d c
  refine Bs ai_22 d c j j j j j fun a w bb c d=>?_;have an:RL ak 1 ([ag.1].map D.str) _:=(Rc (rep_str.2 j) j Rn);obtain ⟨_,a5,g⟩:=bd g
  refine Ao (f:=D.str) (xs:=i.1) (ys:=[ag.1]) ai_22 2 0 d c j j j an j j (Ll a5) j fun a w aw az c d=>?_;have a4:=Ra (ao.m (o.t ap)) an
  refine R q 1 c j fun a c=>E (xB (T ?_));cases g
  exact ⟨af,Nat.lt_succ_self _,_,ak,aw,az,(m ++ [.string ag.1]),l,((ab.t o).t ap),c.kp j,(d.pick [2,1] (by decide) j),a4⟩

theorem cl_64:Callable Tryz.prog 64:=⟨_,Tryz.func64,by kernel_rfl,by kernel_rfl⟩

def ref06_P_must.C (s:Tref06_P→ByteArray→Option Tref06_P):Prop:=∀ {b i r},s b i=some r→∀ {d c h f e g},Inv d c h c [.blk f [.slice e b.T.length g,i_ b.I,i_ b.Deep,i_ b.At,i_ b.E] 105] d→(Sl c e g 4 (b.T.map TToken.d))→Calls Tryz.prog 64 #[(P f),.string i] d (Ret d c h fun G' L' v=>L'=[.blk f [.slice e b.T.length g,i_ r.I,i_ b.Deep,i_ r.At,i_ r.E] 105]∧v = .tuple ⟨[]⟩)

theorem ref06_P_must.ok (k:Nat):ref06_P_must.C (ref06_P_must k):=by
  intro aa ab r d ac s p x o y e h
  unfold ref06_P_must at d
  refine Ci 10 Tryz.func64 j j j fun a c=>?_
  refine S (G (R q 2 c j fun a c=>?_));obtain ⟨n,m,d⟩:=bd d;refine M 1 cl_61 e c j j (fun f=>(ref06_P_take.ok k) m f h) j ?_;rintro a w _ u _ ⟨rfl,rfl⟩ i e c
  refine R q 1 c j fun a c=>E (T (Cc (b:=!n.1) c j (fun g=>?_) (fun g=>?_)));rotate_left
  · replace d:=cf g d;refine K ?_;cases d;refine r_end (v:=_) c j ⟨_,_,_,j,e,j,j⟩
  replace d:=ct g d;refine G (R q 1 c j fun a c=>?_);obtain ⟨ad,l,d⟩:=bd d;refine M 1 cl_68 e c j j (fun f=>(ref06_P_bad.ok k) l f (h.m i)) j ?_
  rintro a w _ t _ ⟨rfl,rfl⟩ z e c;refine E ?_;cases d;refine r_end (v:=_) c j ⟨_,_,_,j,e,j,j⟩

theorem cl_80:Callable Tryz.prog 80:=⟨_,Tryz.func80,by kernel_rfl,by kernel_rfl⟩

def ref06_P_ty.C (s:Tref06_P→Option (Int × Tref06_P)):Prop:=∀ {b r},s b=some r→∀ {d c h f e g},Inv d c h c [.blk f [.slice e b.T.length g,i_ b.I,i_ b.Deep,i_ b.At,i_ b.E] 105] d→(Sl c e g 4 (b.T.map TToken.d))→Calls Tryz.prog 80 #[(P f)] d (Ret d c h fun G' L' v=>L'=[.blk f [.slice e b.T.length g,i_ r.2.I,i_ b.Deep,i_ r.2.At,i_ r.2.E] 105]∧v=i_ r.1)

theorem ref06_P_ty.ok (k:Nat):ref06_P_ty.C (ref06_P_ty k):=by
  intro ak r d al ac ab ah aa ai e g
  unfold ref06_P_ty at d
  refine Ci 11 Tryz.func80 j j j fun a c=>?_
  refine S (G (R q 1 c j fun a c=>E (T (S (S (G (R q 1 c j fun a c=>?_)))))));obtain ⟨z,u,d⟩:=bd d
  refine M 1 cl_61 e c j j (fun f=>(ref06_P_take.ok k) u f g) j ?_;rintro a w _ ag _ ⟨rfl,rfl⟩ m e c;refine E (T (Cc (b:=z.1) c j (fun l=>?_) (fun l=>?_)))
  · replace d:=ct l d;refine S (G (R q 1 c j fun a c=>E (T (V (Xr ?_)))));cases d;refine N (v:=_) c j ⟨_,_,_,j,e,j,j⟩
  replace d:=cf l d;refine K (T (S (S (G (R q 1 c j fun a c=>?_)))));obtain ⟨x,p,d⟩:=bd d
  refine M 1 cl_61 e c j j (fun f=>(ref06_P_take.ok k) p f (g.m m)) j ?_;rintro a w _ ad _ ⟨rfl,rfl⟩ n e c;refine E (T (Cc (b:=x.1) c j (fun i=>?_) (fun i=>?_)))
  · replace d:=ct i d;refine S (G (R q 1 c j fun a c=>E (T (V (Xr ?_)))));cases d;refine N (v:=_) c j ⟨_,_,_,j,e,j,j⟩
  replace d:=cf i d;refine K (T (S (S (G (R q 1 c j fun a c=>?_)))));obtain ⟨y,s,d⟩:=bd d
  refine M 1 cl_61 e c j j (fun f=>(ref06_P_take.ok k) s f (g.m (m.t n))) j ?_;rintro a w _ ae _ ⟨rfl,rfl⟩ o e c
  refine E (T (Cc (b:=y.1) c j (fun h=>?_) (fun h=>?_)))
  · replace d:=ct h d;refine S (G (R q 1 c j fun a c=>E (T (V (Xr ?_)))));cases d;refine N (v:=_) c j ⟨_,_,_,j,e,j,j⟩
  replace d:=cf h d;refine K (T (S (G (R q 1 c j fun a c=>?_))));obtain ⟨am,t,d⟩:=bd d
  refine M 1 cl_68 e c j j (fun f=>(ref06_P_bad.ok k) t f (g.m ((m.t n).t o))) j ?_;rintro a w _ af _ ⟨rfl,rfl⟩ aj e c
  refine E (T (S (G (R q 1 c j fun a c=>E (T (V ?_))))));cases d;refine N (v:=_) c j ⟨_,_,_,j,e,j,j⟩

theorem cl_88:Callable Tryz.prog 88:=⟨_,Tryz.func88,by kernel_rfl,by kernel_rfl⟩

def ref06_P_down.C (s:Tref06_P→Option Tref06_P):Prop:=∀ {b r},s b=some r→∀ {d c h f e g},Inv d c h c [.blk f [.slice e b.T.length g,i_ b.I,i_ b.Deep,i_ b.At,i_ b.E] 105] d→(Sl c e g 4 (b.T.map TToken.d))→Calls Tryz.prog 88 #[(P f)] d (Ret d c h fun G' L' v=>L'=[.blk f [.slice e b.T.length g,i_ b.I,i_ r.Deep,i_ r.At,i_ r.E] 105]∧v = .tuple ⟨[]⟩)

theorem ref06_P_down.ok (k:Nat):ref06_P_down.C (ref06_P_down k):=by
  intro y r d z h n ac aa ad f o
  unfold ref06_P_down at d
  refine Ci 23 Tryz.func88 j j j fun a c=>?_
  
  refine S (G (R q 3 c j fun a c=>L f c j (B q 0 j j j j) j fun a c=>R q 3 c j fun a c=>W q 0 f c j j j j j j j j j j fun a w c f=>E (T (S ?_))))
  obtain ⟨m,d,s⟩:=bd d;refine X c f (fun e L a' w'=>∃ i,h.le i∧Env a' 23 (sl e [0] [(20,.bool m)])∧Inv z h n i L w') ?_ ?_;rotate_left
  · rintro a w ⟨i,u,c,f⟩;have d:=s;refine T (Cc (b:=m) c j (fun l=>?_) (fun l=>?_));rotate_left
    · replace d:=cf l d;refine K ?_;cases d;refine r_end (v:=_) c j ⟨_,_,_,j,f,j,j⟩
    replace d:=ct l d;refine G (R q 1 c j fun a c=>?_);obtain ⟨af,x,d⟩:=bd d;refine M 1 cl_68 f c j j (fun p=>(ref06_P_bad.ok k) x p (o.m u)) j ?_
    rintro a w _ ab _ ⟨rfl,rfl⟩ ae f c;refine E ?_;cases d;refine r_end (v:=_) c j ⟨_,_,_,j,f,j,j⟩
  refine G (R q 3 c j fun a c=>L f c j (B q 0 j j j j) j fun a c=>R q 2 c j fun a c=>?_);rcases Bo (decide (y.E=(0:Int))) with g | g;rotate_left
  · replace d:=cf g d;have c:=c.tr (t:=14) j g;refine R q 6 c j fun a c=>E (T ?_);cases d;exact ⟨h,rf,c.kp j,f⟩
  replace d:=ct g d;have c:=c.tr (t:=14) j g;refine R q 3 c j fun a c=>L f c j (B q 0 j j j j) j fun a c=>R q 2 c j fun a c=>E (T ?_);cases d
  exact ⟨h,rf,c.kp j,f⟩

theorem cl_90:Callable Tryz.prog 90:=⟨_,Tryz.func90,by kernel_rfl,by kernel_rfl⟩

def ref06_bin.C (s:ByteArray→TExpr→TExpr→Option TExpr):Prop:=∀ {g h i r},s g h i=some r→∀ {c b f e},Inv c b [] b [] c→(Rep b h.d f)→(Rep b i.d e)→Calls Tryz.prog 90 #[.string g,.agg ⟨f⟩,.agg ⟨e⟩] c (Ret c b [] fun G' L' v=>L'=[]∧∃ d,v = .agg ⟨d⟩∧Rep G' r.d d)

theorem ref06_bin.ok (k:Nat):ref06_bin.C (ref06_bin k):=by
  intro ae d e r f am m ak aj c ad ab
  unfold ref06_bin at f
  obtain ⟨g,s,i,t,rfl,y,aa⟩:=TExpr.inv.1 ad
  obtain ⟨l,o,h,p,rfl,u,v⟩:=TExpr.inv.1 ab
  refine Ci 12 Tryz.func90 j j j fun a b=>?_
  
  refine S (G (s_box c b j j j j fun a w ag b c=>s_box c b j j j j fun a w ah b c=>A c b j z_75 j j fun a w ai b c=>E (T (S (G (R q 1 b j fun a b=>L c b j (B q 2 j j j j) j fun a b=>L c b j (B q 1 j j j j) j fun a b=>Bs ai_49 c b j j j j j fun a w n b c=>?_))))))
  have ac:RL m 6 ([d,e].map TExpr.d) _:=(Rc (TExpr.inv.2 ⟨g,s,i,t,j,y,aa⟩) j (Rc (TExpr.inv.2 ⟨l,o,h,p,j,u,v⟩) j Rn))
  refine L c b j (Bd q j z_75 j j) j fun a b=>W q 1 c b j j j j j j j j j j fun a w b c=>E (T ?_)
  obtain ⟨af,al,c,z⟩:=(c.front 0).giveR (xs:=([d,e]).map TExpr.d) (by simp) ac;refine V ?_;cases f
  refine U q b c (.cell 0 j j j j .nil) j ⟨_,_,_,j,c.nil,j,_,j,((TExpr.inv (x:=(TExpr.mk (10:Int) (0:Int) ae (⟨#[]⟩:ByteArray) ([d,e]) []))).2 ⟨(p_ n),2,none,0,j,z,(Sn _ _ _ _ (Nat.zero_le _))⟩)⟩

theorem cl_94:Callable Tryz.prog 94:=⟨_,Tryz.func94,by kernel_rfl,by kernel_rfl⟩

def ref06_P_oneOf.C (s:Tref06_P→(List ByteArray)→Option (ByteArray × Tref06_P)):Prop:=∀ {b h r},s b h=some r→∀ {d c l f e g i m},Inv d c l c [.blk f [.slice e b.T.length g,i_ b.I,i_ b.Deep,i_ b.At,i_ b.E] 105] d→(Sl c e g 4 (b.T.map TToken.d))→(Sl c i m 1 (h.map D.str))→Calls Tryz.prog 94 #[(P f),.slice i h.length m] d (Ret d c l fun G' L' v=>L'=[.blk f [.slice e b.T.length g,i_ r.2.I,i_ b.Deep,i_ b.At,i_ b.E] 105]∧v = .string r.1)

theorem ref06_P_oneOf.ok (k:Nat):ref06_P_oneOf.C (ref06_P_oneOf k):=by
  intro g ai r d aj l ab ac aa ad ay a1 f al s
  unfold ref06_P_oneOf at d
  refine Ci 22 Tryz.func94 j j j fun a c=>?_
  refine S (G (R q 1 c j fun a c=>E (T (S (S (G (R q 1 c j fun a c=>E (T ?_))))))));obtain ⟨ah,i,ae⟩:=bd d
  refine X c f (fun e L a' w'=>∃ z p,ah = .go z∧l.le p∧Env a' 22 []∧Inv aj l ab p [.blk ac [.slice aa g.T.length ad,i_ z,i_ g.Deep,i_ g.At,i_ g.E] 105] w') ?_ ?_
  rotate_left
  · rintro a w ⟨z,p,rfl,a2,c,f⟩;have d:=Lg ae;refine T (S (G (R q 1 c j fun a c=>E (T (V ?_)))));cases d;refine N (v:=_) c j ⟨_,_,_,j,f,j,j⟩
  
  refine O (Q c f (fun e L n' a' w'=>∃ i68 h y n,n'=List.length h∧i68≤ai.length∧ai.drop i68=h∧forL (ref06_P_oneOf.b0 k g) i68 h y=some ah∧l.le n∧Env a' 22 (sl e [0,1] [(5,i_ (i68:Int))])∧Inv aj l ab n [.blk ac [.slice aa g.T.length ad,i_ y,i_ g.Deep,i_ g.At,i_ g.E] 105] w') _ ⟨0,_,_,l,j,Nat.zero_le _,j,i,rf,c.kp j,f⟩ ?_)
  rintro a3 a w ⟨i68,h,y,n,rfl,av,o,i,m,c,f⟩;rcases h with _ | ⟨a7,h⟩
  · obtain rfl:=Fn i;have x:=Do o av;refine S (S (G (R q 4 c j fun a c=>E (T ?_))));have c:=c.tr (t:=9) j (decide_eq_false (by omega))
    refine Fa c j (Ex (Xe (Xe (Xh (T (⟨_,n,j,m,c.kp j,f⟩))))))
  obtain ⟨a6,d,i⟩:=Fs i;obtain ⟨ag,o,x⟩:=Dc o;unfold ref06_P_oneOf.b0 at d;refine S (S (G (R q 4 c j fun a c=>E (T ?_))))
  have c:=c.tr (t:=9) j (decide_eq_true (by omega));refine Tr c j (K (T (S (O (S (G (R q 3 c j fun a c=>?_)))))))
  obtain ⟨az,a4,cs,ar,ap,am⟩:=Sa (s.m m) (Int.natCast_nonneg _) (natIdx ag);obtain rfl:=rep_str.1 ap
  refine L f c j (I q ar j j j) j fun a c=>L f c j (Fg q am 0 j j j j) j fun a c=>?_;obtain ⟨ax,aw,d⟩:=bd d
  refine M 1 cl_61 f c j j (fun ao=>(ref06_P_take.ok k) aw ao (al.m m)) j ?_;rintro a w _ ak _ ⟨rfl,rfl⟩ af f c
  refine E (T (Cc (b:=ax.1) c j (fun u=>?_) (fun u=>?_)));rotate_left
  · replace d:=cf u d;refine K (xB (T (G (R q 3 c j fun a c=>E (T ?_)))));cases d;have c:=c.setI (t:=5) j (Wc x (Ln s))
    exact ⟨h.length,Nat.lt_succ_self _,i68 + 1,h,_,ak,j,x,o,i,(m.t af),c.kp j,f⟩
  replace d:=ct u d;refine S (G (R q 2 c j fun a c=>?_));obtain ⟨a0,a5,cs,au,aq,an⟩:=Sa (s.m (m.t af)) (Int.natCast_nonneg _) (natIdx ag)
  obtain rfl:=rep_str.1 aq
  refine L f c j (I q au j j j) j fun a c=>L f c j (Fg q an 0 j j j j) j fun a c=>R q 1 c j fun a c=>E (T (V (Xb (Xr (Xr (Xb (Xr (Xr ?_))))))))
  cases d;obtain rfl:=Nr i;have d:=Le ae;cases d;refine N (v:=_) c j ⟨_,_,_,j,f,j,j⟩

theorem cl_67:Callable Tryz.prog 67:=⟨_,Tryz.func67,by kernel_rfl,by kernel_rfl⟩

def ref06_P_int.C (s:Tref06_P→Option (Int × Tref06_P)):Prop:=∀ {b r},s b=some r→∀ {d c h f e g},Inv d c h c [.blk f [.slice e b.T.length g,i_ b.I,i_ b.Deep,i_ b.At,i_ b.E] 105] d→(Sl c e g 4 (b.T.map TToken.d))→Calls Tryz.prog 67 #[(P f)] d (Ret d c h fun G' L' v=>L'=[.blk f [.slice e b.T.length g,i_ r.2.I,i_ b.Deep,i_ r.2.At,i_ r.2.E] 105]∧v=i_ r.1)

theorem ref06_P_int.ok (k:Nat):ref06_P_int.C (ref06_P_int k):=by
  intro ag r d ah h u ak ai an f l
  unfold ref06_P_int at d
  refine Ci 43 Tryz.func67 j j j fun a c=>?_
  refine S (G (R q 1 c j fun a c=>E (T (S (S ?_)))));obtain ⟨s,d,aa⟩:=bd d
  refine X c f (fun e L a' w'=>∃ i,h.le i∧Env a' 43 (sl e [0] [(21,.bool s)])∧Inv ah h u i L w') ?_ ?_
  · refine Cd mixed (by kernel_rfl) f (Y q 3 c j fun a c=>Z c j (B q 0 j j j j) j fun a c=>Y q 2 c j fun a c=>?_)
    rcases Bo (!decide (ag.E=(0:Int))) with g | g
    · replace d:=ct g d;have c:=c.tr (t:=8) j g;refine Y q 13 c j fun a c=>Qe ?_;intro w f;refine T ?_;cases d;exact ⟨h,rf,c.kp j,f⟩
    replace d:=cf g d;have c:=c.tr (t:=8) j g
    refine Y q 3 c j fun a c=>Z c j (B q 0 j j j j) j fun a c=>Y q 3 c j fun a c=>Z c j (B q 0 j j j j) j fun a c=>?_
    obtain ⟨av,p,d⟩:=bd d;obtain ⟨am,aq,cs,ae,ac,y⟩:=Sa l (Go p).1 (Go p).2;obtain rfl:=TToken.inv.1 ac
    refine Z c j (I q ae j j j) j fun a c=>Y q 1 c j fun a c=>Z c j (Fg q y 0 j j j j) j fun a c=>Y q 2 c j fun a c=>Qe ?_;intro w f
    refine T ?_;cases d;exact ⟨h,rf,c.kp j,f⟩
  rintro a w ⟨i,n,c,f⟩;have d:=aa;refine T (Cc (b:=s) c j (fun m=>?_) (fun m=>?_))
  · replace d:=ct m d;refine S (G (R q 1 c j fun a c=>?_));obtain ⟨ar,af,d⟩:=bd d;refine M 1 cl_68 f c j j (fun z=>(ref06_P_bad.ok k) af z (l.m n)) j ?_
    rintro a w _ aj _ ⟨rfl,rfl⟩ ao f c;refine E (T (S (G (R q 1 c j fun a c=>E (T (V (Xr ?_)))))));cases d;refine N (v:=_) c j ⟨_,_,_,j,f,j,j⟩
  replace d:=cf m d
  refine K (T (S (G (R q 3 c j fun a c=>L f c j (B q 0 j j j j) j fun a c=>R q 3 c j fun a c=>W q 0 f c j j j j j j j j j j fun a w c f=>E (T (S (Cd mixed (by kernel_rfl) f (Y q 3 c j fun a c=>Z c j (B q 0 j j j j) j fun a c=>Y q 3 c j fun a c=>Z c j (B q 0 j j j j) j fun a c=>Y q 1 c j fun a c=>?_))))))))
  obtain ⟨au,o,d⟩:=bd d;obtain ⟨al,ap,cs,ad,ab,x⟩:=Sa (l.m n) (Go o).1 (Go o).2;obtain rfl:=TToken.inv.1 ab
  refine Z c j (I q ad j j j) j fun a c=>Y q 1 c j fun a c=>Z c j (Fg q x 2 j j j j) j fun a c=>Y q 1 c j fun a c=>Qe ?_;intro w f
  refine T (V ?_);cases d;refine N (v:=_) c j ⟨_,_,_,j,f,j,j⟩

theorem cl_81:Callable Tryz.prog 81:=⟨_,Tryz.func81,by kernel_rfl,by kernel_rfl⟩

def ref06_P_Expr.C (s:Tref06_P→Option (TExpr × Tref06_P)):Prop:=∀ {b r},s b=some r→∀ {d c h f e g},Inv d c h c [.blk f [.slice e b.T.length g,i_ b.I,i_ b.Deep,i_ b.At,i_ b.E] 105] d→(Sl c e g 4 (b.T.map TToken.d))→Calls Tryz.prog 81 #[(P f)] d (Ret d c h fun G' L' v=>∃ i,L'=[.blk f [.slice e b.T.length g,i_ r.2.I,i_ r.2.Deep,i_ r.2.At,i_ r.2.E] 105]∧v = .agg ⟨i⟩∧Rep G' r.1.d i)

theorem cl_89:Callable Tryz.prog 89:=⟨_,Tryz.func89,by kernel_rfl,by kernel_rfl⟩

def ref06_P_and.C (s:Tref06_P→Option (TExpr × Tref06_P)):Prop:=∀ {b r},s b=some r→∀ {d c h f e g},Inv d c h c [.blk f [.slice e b.T.length g,i_ b.I,i_ b.Deep,i_ b.At,i_ b.E] 105] d→(Sl c e g 4 (b.T.map TToken.d))→Calls Tryz.prog 89 #[(P f)] d (Ret d c h fun G' L' v=>∃ i,L'=[.blk f [.slice e b.T.length g,i_ r.2.I,i_ r.2.Deep,i_ r.2.At,i_ r.2.E] 105]∧v = .agg ⟨i⟩∧Rep G' r.1.d i)

theorem cl_91:Callable Tryz.prog 91:=⟨_,Tryz.func91,by kernel_rfl,by kernel_rfl⟩

def ref06_P_not.C (s:Tref06_P→Option (TExpr × Tref06_P)):Prop:=∀ {b r},s b=some r→∀ {d c h f e g},Inv d c h c [.blk f [.slice e b.T.length g,i_ b.I,i_ b.Deep,i_ b.At,i_ b.E] 105] d→(Sl c e g 4 (b.T.map TToken.d))→Calls Tryz.prog 91 #[(P f)] d (Ret d c h fun G' L' v=>∃ i,L'=[.blk f [.slice e b.T.length g,i_ r.2.I,i_ r.2.Deep,i_ r.2.At,i_ r.2.E] 105]∧v = .agg ⟨i⟩∧Rep G' r.1.d i)

theorem cl_92:Callable Tryz.prog 92:=⟨_,Tryz.func92,by kernel_rfl,by kernel_rfl⟩

def ref06_P_cmp.C (s:Tref06_P→Option (TExpr × Tref06_P)):Prop:=∀ {b r},s b=some r→∀ {d c h f e g},Inv d c h c [.blk f [.slice e b.T.length g,i_ b.I,i_ b.Deep,i_ b.At,i_ b.E] 105] d→(Sl c e g 4 (b.T.map TToken.d))→Calls Tryz.prog 92 #[(P f)] d (Ret d c h fun G' L' v=>∃ i,L'=[.blk f [.slice e b.T.length g,i_ r.2.I,i_ r.2.Deep,i_ r.2.At,i_ r.2.E] 105]∧v = .agg ⟨i⟩∧Rep G' r.1.d i)

theorem cl_93:Callable Tryz.prog 93:=⟨_,Tryz.func93,by kernel_rfl,by kernel_rfl⟩

def ref06_P_sum.C (s:Tref06_P→Option (TExpr × Tref06_P)):Prop:=∀ {b r},s b=some r→∀ {d c h f e g},Inv d c h c [.blk f [.slice e b.T.length g,i_ b.I,i_ b.Deep,i_ b.At,i_ b.E] 105] d→(Sl c e g 4 (b.T.map TToken.d))→Calls Tryz.prog 93 #[(P f)] d (Ret d c h fun G' L' v=>∃ i,L'=[.blk f [.slice e b.T.length g,i_ r.2.I,i_ r.2.Deep,i_ r.2.At,i_ r.2.E] 105]∧v = .agg ⟨i⟩∧Rep G' r.1.d i)

theorem cl_95:Callable Tryz.prog 95:=⟨_,Tryz.func95,by kernel_rfl,by kernel_rfl⟩

def ref06_P_Query.C (s:Tref06_P→Option (TQuery × Tref06_P)):Prop:=∀ {b r},s b=some r→∀ {d c h f e g},Inv d c h c [.blk f [.slice e b.T.length g,i_ b.I,i_ b.Deep,i_ b.At,i_ b.E] 105] d→(Sl c e g 4 (b.T.map TToken.d))→Calls Tryz.prog 95 #[(P f)] d (Ret d c h fun G' L' v=>∃ i,L'=[.blk f [.slice e b.T.length g,i_ r.2.I,i_ r.2.Deep,i_ r.2.At,i_ r.2.E] 105]∧v = .agg ⟨i⟩∧Rep G' r.1.d i)

theorem cl_96:Callable Tryz.prog 96:=⟨_,Tryz.func96,by kernel_rfl,by kernel_rfl⟩

def ref06_P_prod.C (s:Tref06_P→Option (TExpr × Tref06_P)):Prop:=∀ {b r},s b=some r→∀ {d c h f e g},Inv d c h c [.blk f [.slice e b.T.length g,i_ b.I,i_ b.Deep,i_ b.At,i_ b.E] 105] d→(Sl c e g 4 (b.T.map TToken.d))→Calls Tryz.prog 96 #[(P f)] d (Ret d c h fun G' L' v=>∃ i,L'=[.blk f [.slice e b.T.length g,i_ r.2.I,i_ r.2.Deep,i_ r.2.At,i_ r.2.E] 105]∧v = .agg ⟨i⟩∧Rep G' r.1.d i)

theorem cl_97:Callable Tryz.prog 97:=⟨_,Tryz.func97,by kernel_rfl,by kernel_rfl⟩

def ref06_P_part.C (s:Tref06_P→Option (TQuery × Tref06_P)):Prop:=∀ {b r},s b=some r→∀ {d c h f e g},Inv d c h c [.blk f [.slice e b.T.length g,i_ b.I,i_ b.Deep,i_ b.At,i_ b.E] 105] d→(Sl c e g 4 (b.T.map TToken.d))→Calls Tryz.prog 97 #[(P f)] d (Ret d c h fun G' L' v=>∃ i,L'=[.blk f [.slice e b.T.length g,i_ r.2.I,i_ r.2.Deep,i_ r.2.At,i_ r.2.E] 105]∧v = .agg ⟨i⟩∧Rep G' r.1.d i)

theorem cl_98:Callable Tryz.prog 98:=⟨_,Tryz.func98,by kernel_rfl,by kernel_rfl⟩

def ref06_P_unary.C (s:Tref06_P→Option (TExpr × Tref06_P)):Prop:=∀ {b r},s b=some r→∀ {d c h f e g},Inv d c h c [.blk f [.slice e b.T.length g,i_ b.I,i_ b.Deep,i_ b.At,i_ b.E] 105] d→(Sl c e g 4 (b.T.map TToken.d))→Calls Tryz.prog 98 #[(P f)] d (Ret d c h fun G' L' v=>∃ i,L'=[.blk f [.slice e b.T.length g,i_ r.2.I,i_ r.2.Deep,i_ r.2.At,i_ r.2.E] 105]∧v = .agg ⟨i⟩∧Rep G' r.1.d i)

theorem cl_99:Callable Tryz.prog 99:=⟨_,Tryz.func99,by kernel_rfl,by kernel_rfl⟩

def ref06_P_src.C (s:Tref06_P→Option (TFrom × Tref06_P)):Prop:=∀ {b r},s b=some r→∀ {d c h f e g},Inv d c h c [.blk f [.slice e b.T.length g,i_ b.I,i_ b.Deep,i_ b.At,i_ b.E] 105] d→(Sl c e g 4 (b.T.map TToken.d))→Calls Tryz.prog 99 #[(P f)] d (Ret d c h fun G' L' v=>∃ i,L'=[.blk f [.slice e b.T.length g,i_ r.2.I,i_ r.2.Deep,i_ r.2.At,i_ r.2.E] 105]∧v = .agg ⟨i⟩∧Rep G' r.1.d i)

theorem cl_100:Callable Tryz.prog 100:=⟨_,Tryz.func100,by kernel_rfl,by kernel_rfl⟩

def ref06_P_exprs.C (s:Tref06_P→Option ((List TExpr) × Tref06_P)):Prop:=∀ {b r},s b=some r→∀ {d c i f e g},Inv d c i c [.blk f [.slice e b.T.length g,i_ b.I,i_ b.Deep,i_ b.At,i_ b.E] 105] d→(Sl c e g 4 (b.T.map TToken.d))→Calls Tryz.prog 100 #[(P f)] d (Ret d c i fun G' L' v=>∃ h l,L'=[.blk f [.slice e b.T.length g,i_ r.2.I,i_ r.2.Deep,i_ r.2.At,i_ r.2.E] 105]∧v = .slice h r.1.length l∧Sl G' h l 6 (r.1.map TExpr.d))

theorem cl_101:Callable Tryz.prog 101:=⟨_,Tryz.func101,by kernel_rfl,by kernel_rfl⟩

def ref06_P_prim.C (s:Tref06_P→Option (TExpr × Tref06_P)):Prop:=∀ {b r},s b=some r→∀ {d c h f e g},Inv d c h c [.blk f [.slice e b.T.length g,i_ b.I,i_ b.Deep,i_ b.At,i_ b.E] 105] d→(Sl c e g 4 (b.T.map TToken.d))→Calls Tryz.prog 101 #[(P f)] d (Ret d c h fun G' L' v=>∃ i,L'=[.blk f [.slice e b.T.length g,i_ r.2.I,i_ r.2.Deep,i_ r.2.At,i_ r.2.E] 105]∧v = .agg ⟨i⟩∧Rep G' r.1.d i)

theorem cl_102:Callable Tryz.prog 102:=⟨_,Tryz.func102,by kernel_rfl,by kernel_rfl⟩

def ref06_P_one.C (s:Tref06_P→Option (TFrom × Tref06_P)):Prop:=∀ {b r},s b=some r→∀ {d c h f e g},Inv d c h c [.blk f [.slice e b.T.length g,i_ b.I,i_ b.Deep,i_ b.At,i_ b.E] 105] d→(Sl c e g 4 (b.T.map TToken.d))→Calls Tryz.prog 102 #[(P f)] d (Ret d c h fun G' L' v=>∃ i,L'=[.blk f [.slice e b.T.length g,i_ r.2.I,i_ r.2.Deep,i_ r.2.At,i_ r.2.E] 105]∧v = .agg ⟨i⟩∧Rep G' r.1.d i)

theorem ref06_P_Expr.F_ok (k:Nat) (s_ref06_P_Expr:Tref06_P→Option (TExpr × Tref06_P)) (s_ref06_P_and:Tref06_P→Option (TExpr × Tref06_P)) (s_ref06_P_not:Tref06_P→Option (TExpr × Tref06_P)) (s_ref06_P_cmp:Tref06_P→Option (TExpr × Tref06_P)) (s_ref06_P_sum:Tref06_P→Option (TExpr × Tref06_P)) (s_ref06_P_Query:Tref06_P→Option (TQuery × Tref06_P)) (s_ref06_P_prod:Tref06_P→Option (TExpr × Tref06_P)) (s_ref06_P_part:Tref06_P→Option (TQuery × Tref06_P)) (s_ref06_P_unary:Tref06_P→Option (TExpr × Tref06_P)) (s_ref06_P_src:Tref06_P→Option (TFrom × Tref06_P)) (s_ref06_P_exprs:Tref06_P→Option ((List TExpr) × Tref06_P)) (s_ref06_P_prim:Tref06_P→Option (TExpr × Tref06_P)) (s_ref06_P_one:Tref06_P→Option (TFrom × Tref06_P)) (hs_ref06_P_Expr:ref06_P_Expr.C s_ref06_P_Expr) (hs_ref06_P_and:ref06_P_and.C s_ref06_P_and) (hs_ref06_P_not:ref06_P_not.C s_ref06_P_not) (hs_ref06_P_cmp:ref06_P_cmp.C s_ref06_P_cmp) (hs_ref06_P_sum:ref06_P_sum.C s_ref06_P_sum) (hs_ref06_P_Query:ref06_P_Query.C s_ref06_P_Query) (hs_ref06_P_prod:ref06_P_prod.C s_ref06_P_prod) (hs_ref06_P_part:ref06_P_part.C s_ref06_P_part) (hs_ref06_P_unary:ref06_P_unary.C s_ref06_P_unary) (hs_ref06_P_src:ref06_P_src.C s_ref06_P_src) (hs_ref06_P_exprs:ref06_P_exprs.C s_ref06_P_exprs) (hs_ref06_P_prim:ref06_P_prim.C s_ref06_P_prim) (hs_ref06_P_one:ref06_P_one.C s_ref06_P_one):ref06_P_Expr.C (ref06_P_Expr.F k s_ref06_P_Expr s_ref06_P_and s_ref06_P_not s_ref06_P_cmp s_ref06_P_sum s_ref06_P_Query s_ref06_P_prod s_ref06_P_part s_ref06_P_unary s_ref06_P_src s_ref06_P_exprs s_ref06_P_prim s_ref06_P_one):=by
  intro ai r f av al ak am aj ao d ab
  unfold ref06_P_Expr.F at f
  refine Ci 22 Tryz.func81 j j j fun a c=>?_
  refine S (G (A d c j z_75 j j fun a w bw c d=>E (T (S (G (R q 1 c j fun a c=>?_))))));have d:=d.pick [1,0] (by decide) j;obtain ⟨b6,bs,f⟩:=bd f
  refine M 1 cl_88 d c j j (fun i=>(ref06_P_down.ok k) bs i ab) j ?_;rintro a w _ bv _ ⟨rfl,rfl⟩ ag d c;refine E (T (S (G (R q 1 c j fun a c=>?_))))
  obtain ⟨b3,bo,f⟩:=bd f;refine M 1 cl_89 d c j j (fun i=>hs_ref06_P_and bo i (ab.m ag)) j ?_;rintro a w _ ae _ ⟨bx,rfl,rfl,bk⟩ ar d c
  obtain ⟨aw,a4,ax,a5,rfl,ba,bc⟩:=TExpr.inv.1 bk
  refine A d c j z_75 j j fun a w an c d=>W q 0 d c j j j j j j j j j j fun a w c d=>E (T (S ?_));obtain ⟨au,l,bj⟩:=bd f
  refine X c d (fun e L a' w'=>∃ h s v z y aa,au = .go h∧ae.le s∧Env a' 22 (sl e [0,2,3] [])∧Inv av al ak s [.blk an [i_ h.1,i_ h.2.1,.string h.2.2.1,.string h.2.2.2.1,.slice v h.2.2.2.2.1.length z,.slice y h.2.2.2.2.2.1.length aa] 75,.blk am [.slice aj ai.T.length ao,i_ h.2.2.2.2.2.2.1,i_ h.2.2.2.2.2.2.2.1,i_ h.2.2.2.2.2.2.2.2.1,i_ h.2.2.2.2.2.2.2.2.2] 105,nt L 2] w'∧Sl s v z 6 (h.2.2.2.2.1.map TExpr.d)∧Sl s y aa 10 (h.2.2.2.2.2.1.map TQuery.d)) ?_ ?_
  rotate_left
  · rintro a w ⟨h,s,v,z,y,aa,rfl,b1,c,d,bb,be⟩;have f:=Lg bj
    refine T (S (G (R q 3 c j fun a c=>L d c j (B q 1 j j j j) j fun a c=>R q 3 c j fun a c=>W q 1 d c j j j j j j j j j j fun a w c d=>E (T (S (G (L d c j (B q 0 j j j j) j fun a c=>W q 2 d c j j j j j j j j j j fun a w c d=>E (T (V ?_)))))))))
    cases f
    refine U q c d (.cell 2 j j j j .nil) j ⟨_,_,_,j,(d.pick [1] (by decide) j),_,j,j,((TExpr.inv (x:=(TExpr.mk h.1 h.2.1 h.2.2.1 h.2.2.2.1 h.2.2.2.2.1 h.2.2.2.2.2.1))).2 ⟨v,z,y,aa,j,bb,be⟩)⟩
  
  refine O (Q c d (fun e L n' a' w'=>∃ g p n t o u,whileL (ref06_P_Expr.b0 k s_ref06_P_Expr s_ref06_P_and s_ref06_P_not s_ref06_P_cmp s_ref06_P_sum s_ref06_P_Query s_ref06_P_prod s_ref06_P_part s_ref06_P_unary s_ref06_P_src s_ref06_P_exprs s_ref06_P_prim s_ref06_P_one ai) n' g=some au∧ae.le p∧Env a' 22 (sl e [0,2,3] [])∧Inv av al ak p [.blk an [i_ g.1,i_ g.2.1,.string g.2.2.1,.string g.2.2.2.1,.slice n g.2.2.2.2.1.length t,.slice o g.2.2.2.2.2.1.length u] 75,.blk am [.slice aj ai.T.length ao,i_ g.2.2.2.2.2.2.1,i_ g.2.2.2.2.2.2.2.1,i_ g.2.2.2.2.2.2.2.2.1,i_ g.2.2.2.2.2.2.2.2.2] 105,nt L 2] w'∧Sl p n t 6 (g.2.2.2.2.1.map TExpr.d)∧Sl p o u 10 (g.2.2.2.2.2.1.map TQuery.d)) _ ⟨_,ae,aw,a4,ax,a5,l,rf,c.kp j,d,ba,bc⟩ ?_)
  rintro ah a w ⟨g,p,n,t,o,u,l,ac,c,d,ap,aq⟩;rcases ah with _ | ah
  · cases l
  obtain ⟨b2,f,l⟩:=Wh l;unfold ref06_P_Expr.b0 at f;refine S (S (G (R q 1 c j fun a c=>?_)));have d:=d.pick [1,0,2] (by decide) j
  obtain ⟨bt,bp,f⟩:=bd f;refine M 1 cl_61 d c j j (fun i=>(ref06_P_take.ok k) bp i (ab.m ((ag.t ar).t ac))) j ?_;rintro a w _ a2 _ ⟨rfl,rfl⟩ m d c
  refine E (T (Cc (b:=bt.1) c j (fun af=>?_) (fun af=>?_)));rotate_left
  · replace f:=cf af f;refine Ex (Xe (Xe (Xh (T ?_))));cases f;obtain rfl:=Wb l
    exact ⟨_,a2,n,t,o,u,j,(ac.t m),c.kp j,(d.pick [1,0,2] (by decide) j),(ap.m m),(aq.m m)⟩
  replace f:=ct af f
  refine K (T (O (Mx [1] [3,4] (.step 0 1 (.step 1 0 (.step 2 2 (.step 3 3 (.step 4 3 .nil))))) mixed (by kernel_rfl) d (by decide) j fun w d hS=>Dd hS c j j (Rw fun _=>(B q 0 j j j j)) j fun a c=>H q 1 c j fun a c=>Df j ?_)))
  obtain ⟨b4,bq,f⟩:=bd f;refine M 1 cl_89 d c j j (fun i=>hs_ref06_P_and bq i (ab.m (((ag.t ar).t ac).t m))) j ?_
  rintro a w _ bu _ ⟨bz,rfl,rfl,bl⟩ ad d c;obtain ⟨ay,a6,az,a7,rfl,bf,bg⟩:=TExpr.inv.1 bl;refine De (d.sw [1] (by decide) j ad) fun hS=>Dl j ?_
  obtain ⟨b5,br,f⟩:=bd f
  refine J cl_90 d c j j ((ref06_bin.ok k) br d.pass0 ((TExpr.inv (x:=(TExpr.mk g.1 g.2.1 g.2.2.1 g.2.2.2.1 g.2.2.2.2.1 g.2.2.2.2.2.1))).2 ⟨n,t,o,u,j,(ap.m (m.t ad)),(aq.m (m.t ad))⟩) (TExpr.inv.2 ⟨ay,a6,az,a7,j,bf,bg⟩)) j ?_
  rintro a w _ a3 _ ⟨rfl,b0,rfl,bm⟩ bn d c;obtain ⟨a0,a8,a1,a9,rfl,bh,bi⟩:=TExpr.inv.1 bm
  refine Dn (Dl j (W q 1 d c j j j j j j j j j j fun a w c d=>Dn (Dz (xB (T ?_)))));cases f
  exact ⟨ah,Nat.lt_succ_self _,_,a3,a0,a8,a1,a9,l,(((ac.t m).t ad).t bn),c.kp j,(d.pick [1,0,2] (by decide) j),bh,bi⟩

theorem ref06_P_and.F_ok (k:Nat) (s_ref06_P_Expr:Tref06_P→Option (TExpr × Tref06_P)) (s_ref06_P_and:Tref06_P→Option (TExpr × Tref06_P)) (s_ref06_P_not:Tref06_P→Option (TExpr × Tref06_P)) (s_ref06_P_cmp:Tref06_P→Option (TExpr × Tref06_P)) (s_ref06_P_sum:Tref06_P→Option (TExpr × Tref06_P)) (s_ref06_P_Query:Tref06_P→Option (TQuery × Tref06_P)) (s_ref06_P_prod:Tref06_P→Option (TExpr × Tref06_P)) (s_ref06_P_part:Tref06_P→Option (TQuery × Tref06_P)) (s_ref06_P_unary:Tref06_P→Option (TExpr × Tref06_P)) (s_ref06_P_src:Tref06_P→Option (TFrom × Tref06_P)) (s_ref06_P_exprs:Tref06_P→Option ((List TExpr) × Tref06_P)) (s_ref06_P_prim:Tref06_P→Option (TExpr × Tref06_P)) (s_ref06_P_one:Tref06_P→Option (TFrom × Tref06_P)) (hs_ref06_P_Expr:ref06_P_Expr.C s_ref06_P_Expr) (hs_ref06_P_and:ref06_P_and.C s_ref06_P_and) (hs_ref06_P_not:ref06_P_not.C s_ref06_P_not) (hs_ref06_P_cmp:ref06_P_cmp.C s_ref06_P_cmp) (hs_ref06_P_sum:ref06_P_sum.C s_ref06_P_sum) (hs_ref06_P_Query:ref06_P_Query.C s_ref06_P_Query) (hs_ref06_P_prod:ref06_P_prod.C s_ref06_P_prod) (hs_ref06_P_part:ref06_P_part.C s_ref06_P_part) (hs_ref06_P_unary:ref06_P_unary.C s_ref06_P_unary) (hs_ref06_P_src:ref06_P_src.C s_ref06_P_src) (hs_ref06_P_exprs:ref06_P_exprs.C s_ref06_P_exprs) (hs_ref06_P_prim:ref06_P_prim.C s_ref06_P_prim) (hs_ref06_P_one:ref06_P_one.C s_ref06_P_one):ref06_P_and.C (ref06_P_and.F k s_ref06_P_Expr s_ref06_P_and s_ref06_P_not s_ref06_P_cmp s_ref06_P_sum s_ref06_P_Query s_ref06_P_prod s_ref06_P_part s_ref06_P_unary s_ref06_P_src s_ref06_P_exprs s_ref06_P_prim s_ref06_P_one):=by
  intro ah r f au ak aj al ai an d ae
  unfold ref06_P_and.F at f
  refine Ci 13 Tryz.func89 j j j fun a c=>?_
  refine S (G (A d c j z_75 j j fun a w bt c d=>E (T (S (G (R q 1 c j fun a c=>?_))))));have d:=d.pick [1,0] (by decide) j;obtain ⟨b0,bn,f⟩:=bd f
  refine M 1 cl_91 d c j j (fun u=>hs_ref06_P_not bn u ae) j ?_;rintro a w _ ad _ ⟨bu,rfl,rfl,bj⟩ aq d c;obtain ⟨av,a3,aw,a4,rfl,a9,ba⟩:=TExpr.inv.1 bj
  refine A d c j z_75 j j fun a w am c d=>W q 0 d c j j j j j j j j j j fun a w c d=>E (T (S ?_));obtain ⟨ar,i,bi⟩:=bd f
  refine X c d (fun e L a' w'=>∃ h p v z y aa,ar = .go h∧ad.le p∧Env a' 13 (sl e [2,3] [])∧Inv au ak aj p [.blk am [i_ h.1,i_ h.2.1,.string h.2.2.1,.string h.2.2.2.1,.slice v h.2.2.2.2.1.length z,.slice y h.2.2.2.2.2.1.length aa] 75,.blk al [.slice ai ah.T.length an,i_ h.2.2.2.2.2.2.1,i_ h.2.2.2.2.2.2.2.1,i_ h.2.2.2.2.2.2.2.2.1,i_ h.2.2.2.2.2.2.2.2.2] 105,nt L 2] w'∧Sl p v z 6 (h.2.2.2.2.1.map TExpr.d)∧Sl p y aa 10 (h.2.2.2.2.2.1.map TQuery.d)) ?_ ?_
  rotate_left
  · rintro a w ⟨h,p,v,z,y,aa,rfl,bx,c,d,bb,bc⟩;have f:=Lg bi
    refine T (S (G (L d c j (B q 0 j j j j) j fun a c=>W q 2 d c j j j j j j j j j j fun a w c d=>E (T (V ?_)))));cases f
    refine U q c d (.cell 2 j j j j .nil) j ⟨_,_,_,j,(d.pick [1] (by decide) j),_,j,j,((TExpr.inv (x:=(TExpr.mk h.1 h.2.1 h.2.2.1 h.2.2.2.1 h.2.2.2.2.1 h.2.2.2.2.2.1))).2 ⟨v,z,y,aa,j,bb,bc⟩)⟩
  
  refine O (Q c d (fun e L n' a' w'=>∃ g o m s n t,whileL (ref06_P_and.b0 k s_ref06_P_Expr s_ref06_P_and s_ref06_P_not s_ref06_P_cmp s_ref06_P_sum s_ref06_P_Query s_ref06_P_prod s_ref06_P_part s_ref06_P_unary s_ref06_P_src s_ref06_P_exprs s_ref06_P_prim s_ref06_P_one ah) n' g=some ar∧ad.le o∧Env a' 13 (sl e [0,2,3] [])∧Inv au ak aj o [.blk am [i_ g.1,i_ g.2.1,.string g.2.2.1,.string g.2.2.2.1,.slice m g.2.2.2.2.1.length s,.slice n g.2.2.2.2.2.1.length t] 75,.blk al [.slice ai ah.T.length an,i_ g.2.2.2.2.2.2.1,i_ g.2.2.2.2.2.2.2.1,i_ g.2.2.2.2.2.2.2.2.1,i_ g.2.2.2.2.2.2.2.2.2] 105,nt L 2] w'∧Sl o m s 6 (g.2.2.2.2.1.map TExpr.d)∧Sl o n t 10 (g.2.2.2.2.2.1.map TQuery.d)) _ ⟨_,ad,av,a3,aw,a4,i,rf,c.kp j,d,a9,ba⟩ ?_)
  rintro ag a w ⟨g,o,m,s,n,t,i,ab,c,d,ao,ap⟩;rcases ag with _ | ag
  · cases i
  obtain ⟨bz,f,i⟩:=Wh i;unfold ref06_P_and.b0 at f;refine S (S (G (R q 1 c j fun a c=>?_)));have d:=d.pick [1,0,2] (by decide) j
  obtain ⟨br,bo,f⟩:=bd f;refine M 1 cl_61 d c j j (fun u=>(ref06_P_take.ok k) bo u (ae.m (aq.t ab))) j ?_;rintro a w _ a1 _ ⟨rfl,rfl⟩ l d c
  refine E (T (Cc (b:=br.1) c j (fun af=>?_) (fun af=>?_)));rotate_left
  · replace f:=cf af f;refine Ex (Xe (Xe (Xh (T ?_))));cases f;obtain rfl:=Wb i
    exact ⟨_,a1,m,s,n,t,j,(ab.t l),c.kp j,(d.pick [1,0,2] (by decide) j),(ao.m l),(ap.m l)⟩
  replace f:=ct af f
  refine K (T (O (Mx [1] [3,4] (.step 0 1 (.step 1 0 (.step 2 2 (.step 3 3 (.step 4 3 .nil))))) mixed (by kernel_rfl) d (by decide) j fun w d hS=>Dd hS c j j (Rw fun _=>(B q 0 j j j j)) j fun a c=>H q 1 c j fun a c=>Df j ?_)))
  obtain ⟨b1,bp,f⟩:=bd f;refine M 1 cl_91 d c j j (fun u=>hs_ref06_P_not bp u (ae.m ((aq.t ab).t l))) j ?_;rintro a w _ bs _ ⟨bv,rfl,rfl,bk⟩ ac d c
  obtain ⟨ax,a5,ay,a6,rfl,be,bf⟩:=TExpr.inv.1 bk;refine De (d.sw [1] (by decide) j ac) fun hS=>Dl j ?_;obtain ⟨b2,bq,f⟩:=bd f
  refine J cl_90 d c j j ((ref06_bin.ok k) bq d.pass0 ((TExpr.inv (x:=(TExpr.mk g.1 g.2.1 g.2.2.1 g.2.2.2.1 g.2.2.2.2.1 g.2.2.2.2.2.1))).2 ⟨m,s,n,t,j,(ao.m (l.t ac)),(ap.m (l.t ac))⟩) (TExpr.inv.2 ⟨ax,a5,ay,a6,j,be,bf⟩)) j ?_
  rintro a w _ a2 _ ⟨rfl,bw,rfl,bl⟩ bm d c;obtain ⟨az,a7,a0,a8,rfl,bg,bh⟩:=TExpr.inv.1 bl
  refine Dn (Dl j (W q 1 d c j j j j j j j j j j fun a w c d=>Dn (Dz (xB (T ?_)))));cases f
  exact ⟨ag,Nat.lt_succ_self _,_,a2,az,a7,a0,a8,i,(((ab.t l).t ac).t bm),c.kp j,(d.pick [1,0,2] (by decide) j),bg,bh⟩

theorem ref06_P_not.F_ok (k:Nat) (s_ref06_P_Expr:Tref06_P→Option (TExpr × Tref06_P)) (s_ref06_P_and:Tref06_P→Option (TExpr × Tref06_P)) (s_ref06_P_not:Tref06_P→Option (TExpr × Tref06_P)) (s_ref06_P_cmp:Tref06_P→Option (TExpr × Tref06_P)) (s_ref06_P_sum:Tref06_P→Option (TExpr × Tref06_P)) (s_ref06_P_Query:Tref06_P→Option (TQuery × Tref06_P)) (s_ref06_P_prod:Tref06_P→Option (TExpr × Tref06_P)) (s_ref06_P_part:Tref06_P→Option (TQuery × Tref06_P)) (s_ref06_P_unary:Tref06_P→Option (TExpr × Tref06_P)) (s_ref06_P_src:Tref06_P→Option (TFrom × Tref06_P)) (s_ref06_P_exprs:Tref06_P→Option ((List TExpr) × Tref06_P)) (s_ref06_P_prim:Tref06_P→Option (TExpr × Tref06_P)) (s_ref06_P_one:Tref06_P→Option (TFrom × Tref06_P)) (hs_ref06_P_Expr:ref06_P_Expr.C s_ref06_P_Expr) (hs_ref06_P_and:ref06_P_and.C s_ref06_P_and) (hs_ref06_P_not:ref06_P_not.C s_ref06_P_not) (hs_ref06_P_cmp:ref06_P_cmp.C s_ref06_P_cmp) (hs_ref06_P_sum:ref06_P_sum.C s_ref06_P_sum) (hs_ref06_P_Query:ref06_P_Query.C s_ref06_P_Query) (hs_ref06_P_prod:ref06_P_prod.C s_ref06_P_prod) (hs_ref06_P_part:ref06_P_part.C s_ref06_P_part) (hs_ref06_P_unary:ref06_P_unary.C s_ref06_P_unary) (hs_ref06_P_src:ref06_P_src.C s_ref06_P_src) (hs_ref06_P_exprs:ref06_P_exprs.C s_ref06_P_exprs) (hs_ref06_P_prim:ref06_P_prim.C s_ref06_P_prim) (hs_ref06_P_one:ref06_P_one.C s_ref06_P_one):ref06_P_not.C (ref06_P_not.F k s_ref06_P_Expr s_ref06_P_and s_ref06_P_not s_ref06_P_cmp s_ref06_P_sum s_ref06_P_Query s_ref06_P_prod s_ref06_P_part s_ref06_P_unary s_ref06_P_src s_ref06_P_exprs s_ref06_P_prim s_ref06_P_one):=by
  intro ao r e a8 au ar az aq a2 d g
  unfold ref06_P_not.F at e
  refine Ci 28 Tryz.func91 j j j fun a c=>?_
  
  refine S (G (A d c j z_75 j j fun a w a1 c d=>E (T (S (S (G (R q 3 c j fun a c=>L d c j (B q 1 j j j j) j fun a c=>R q 1 c j fun a c=>E (T (Cc (b:=!decide (ao.E=(0:Int))) c j (fun i=>?_) (fun i=>?_))))))))))
  · replace e:=ct i e;refine S (G (L d c j (Bd q j z_75 j j) j fun a c=>W q 0 d c j j j j j j j j j j fun a w c d=>E (T (V (Xr ?_)))))
    cases e
    refine U q c d (.cell 0 j j j j .nil) j ⟨_,_,_,j,(d.pick [1] (by decide) j),_,j,j,((TExpr.inv (x:=(TExpr.mk (0:Int) (0:Int) (⟨#[]⟩:ByteArray) (⟨#[]⟩:ByteArray) [] []))).2 ⟨none,0,none,0,j,(Sn _ _ _ _ (Nat.zero_le _)),(Sn _ _ _ _ (Nat.zero_le _))⟩)⟩
  replace e:=cf i e;refine K (T (S (S (G (R q 1 c j fun a c=>?_)))));have d:=d.pick [1,0] (by decide) j;obtain ⟨ap,an,e⟩:=bd e
  refine M 1 cl_61 d c j j (fun f=>(ref06_P_take.ok k) an f g) j ?_;rintro a w _ av _ ⟨rfl,rfl⟩ l d c;refine E (T (Cc (b:=ap.1) c j (fun h=>?_) (fun h=>?_)));rotate_left
  · replace e:=cf h e;refine K (T (S (G (R q 1 c j fun a c=>?_))));obtain ⟨ba,am,e⟩:=bd e
    refine M 1 cl_92 d c j j (fun f=>hs_ref06_P_cmp am f (g.m l)) j ?_;rintro a w _ ay _ ⟨a4,rfl,rfl,ai⟩ a7 d c;obtain ⟨p,z,s,aa,rfl,ae,af⟩:=TExpr.inv.1 ai
    refine W q 1 d c j j j j j j j j j j fun a w c d=>E (T (V ?_));cases e
    refine U q c d (.cell 1 j j j j .nil) j ⟨_,_,_,j,(d.pick [0] (by decide) j),_,j,j,(TExpr.inv.2 ⟨p,z,s,aa,j,ae,af⟩)⟩
  replace e:=ct h e;refine S (G (R q 1 c j fun a c=>?_));obtain ⟨a9,ak,e⟩:=bd e;refine M 1 cl_88 d c j j (fun f=>(ref06_P_down.ok k) ak f (g.m l)) j ?_
  rintro a w _ aw _ ⟨rfl,rfl⟩ aj d c;refine E (T (S (G (R q 1 c j fun a c=>?_))));obtain ⟨m,al,e⟩:=bd e
  refine M 1 cl_91 d c j j (fun f=>hs_ref06_P_not al f (g.m (l.t aj))) j ?_;rintro a w _ t _ ⟨a3,rfl,rfl,ag⟩ a5 d c
  obtain ⟨n,v,o,y,rfl,ab,ac⟩:=TExpr.inv.1 ag;refine Bs ai_49 d c j j j j j fun a w u c d=>?_
  have ah:RL t 6 ([m.1].map TExpr.d) _:=(Rc (TExpr.inv.2 ⟨n,v,o,y,j,ab,ac⟩) j Rn)
  refine L d c j (Bd q j z_75 j j) j fun a c=>A d c j z_75 j j fun a w a0 c d=>W q 0 d c j j j j j j j j j j fun a w c d=>E (T (S (G (R q 3 c j fun a c=>L d c j (B q 2 j j j j) j fun a c=>R q 3 c j fun a c=>W q 2 d c j j j j j j j j j j fun a w c d=>E (T (S (G (L d c j (B q 0 j j j j) j fun a c=>W q 3 d c j j j j j j j j j j fun a w c d=>E (T ?_)))))))))
  obtain ⟨ax,a6,d,ad⟩:=(d.front 1).giveR (xs:=([m.1]).map TExpr.d) (by simp) ah;refine V (Xr ?_);cases e
  refine U q c d (.cell 2 j j j j .nil) j ⟨_,_,_,j,(d.pick [1] (by decide) j),_,j,j,((TExpr.inv (x:=(TExpr.mk (8:Int) (0:Int) (⟨#[]⟩:ByteArray) (⟨#[]⟩:ByteArray) ([m.1]) []))).2 ⟨(p_ u),1,none,0,j,ad,(Sn _ _ _ _ (Nat.zero_le _))⟩)⟩
end Go.Proofs.YtliaopbgkcdibaaGreat
