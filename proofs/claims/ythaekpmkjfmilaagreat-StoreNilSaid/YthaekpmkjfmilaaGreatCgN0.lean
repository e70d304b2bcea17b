/- The contracts: what the machine does at a call is what the plain function says. Written by mk.py. -/
import Derived.Test.YthaekpmkjfmilaaGreatCtN
set_option linter.unusedVariables false
set_option linter.unusedSimpArgs false
set_option maxRecDepth 100000
namespace Go.Proofs.YthaekpmkjfmilaaGreat
open Go.RowKit
theorem cl_47:Callable Tryz.prog 47:=⟨_,Tryz.func47,by kernel_rfl,by kernel_rfl⟩

def store_DB_has.C (s:(Option Tstore_DB)→Int→Option Bool):Prop:=∀ {e f r},s e f=some r→∀ {c b d},Inv c b [] b [] c→(Pt b d 95 Tstore_DB.d e)→Calls Tryz.prog 47 #[.pointer d,i_ f] c (Ret c b [] fun G' L' v=>L'=[]∧v = .bool r)

theorem store_DB_has.ok (k:Nat):store_DB_has.C (store_DB_has k):=by
  intro u x r c y f z d m
  unfold store_DB_has at c
  refine Ci 20 Tryz.func47 j j j fun a b=>?_
  refine S (G (R q 1 b j fun a b=>E (T (S ?_))));obtain ⟨s,c,o⟩:=bd c
  refine X b d (fun e L a' w'=>∃ i,f.le i∧Env a' 20 [(4,.bool s)]∧Inv y f [] i L w') ?_ ?_;rotate_left
  · rintro a w ⟨i,aj,b,d⟩;have c:=o;refine T (V ?_);cases c;refine N (v:=_) b j ⟨_,_,_,j,d.nil,j,j⟩
  refine G (R q 1 b j fun a b=>L d b j (f_pnn up_29 m j j) j fun a b=>R q 1 b j fun a b=>?_);rcases Bo (!u.isNone) with g | g;rotate_left
  · replace c:=cf g c;have b:=b.tr (t:=7) j g;refine R q 13 b j fun a b=>E (T ?_);cases c;exact ⟨f,rf,b.kp j,d⟩
  replace c:=ct g c;have b:=b.tr (t:=7) j g;refine R q 4 b j fun a b=>?_;rcases Bo (decide ((0:Int)≤x)) with h | h;rotate_left
  · replace c:=cf h c;have b:=b.tr (t:=11) j h;refine R q 9 b j fun a b=>E (T ?_);cases c;exact ⟨f,rf,b.kp j,d⟩
  replace c:=ct h c;have b:=b.tr (t:=11) j h;refine R q 2 b j fun a b=>?_;rcases (m).cases with ⟨l,rfl⟩ | ⟨ak,ad,cs,l,rfl,p,n⟩
  · cases op_n l c
  replace c:=op_s l c;obtain ⟨aa,ab,ae,ac,af,rfl,ag,ah,ai⟩:=Tstore_DB.inv.1 p
  refine R q 2 b j fun a b=>L d b j (Fg q n 1 j j j j) j fun a b=>R q 4 b j fun a b=>E (T ?_);cases c;exact ⟨f,rf,b.kp j,d⟩

theorem cl_13:Callable Tryz.prog 13:=⟨_,Tryz.func13,by kernel_rfl,by kernel_rfl⟩

def store_DB_Hidden.C (s:(Option Tstore_DB)→Int→(List TValue)→Option Bool):Prop:=∀ {h i d r},s h i d=some r→∀ {c b e f g},Inv c b [] b [] c→(Pt b e 95 Tstore_DB.d h)→(Sl b f g 3 (d.map TValue.d))→Calls Tryz.prog 13 #[.pointer e,i_ i,.slice f d.length g] c (Ret c b [] fun G' L' v=>L'=[]∧v = .bool r)

theorem store_DB_Hidden.ok (k:Nat):store_DB_Hidden.C (store_DB_Hidden k):=by
  intro a7 a8 a9 r d af n ah ai ar f p az
  unfold store_DB_Hidden at d
  refine Ci 47 Tryz.func13 j j j fun a c=>?_
  refine S (G (R q 1 c j fun a c=>E (T (S (S ?_)))));obtain ⟨u,d,aa⟩:=bd d
  refine X c f (fun e L a' w'=>∃ h,n.le h∧Env a' 47 (sl e [0,1,2] [(23,.bool u)])∧Inv af n [] h L w') ?_ ?_;rotate_left
  · rintro a w ⟨h,a5,c,f⟩;have d:=aa;refine T (Cc (b:=u) c j (fun i=>?_) (fun i=>?_));rotate_left
    · replace d:=cf i d;cases d
    replace d:=ct i d;refine S (G (R q 1 c j fun a c=>E (T (V (Xr ?_)))));cases d;refine N (v:=_) c j ⟨_,_,_,j,f.nil,j,j⟩
  refine G (R q 2 c j fun a c=>?_);obtain ⟨ag,ae,d⟩:=bd d;refine J cl_47 f c j j ((store_DB_has.ok k) ae f.pass0 p) j ?_;rintro a w _ o _ ⟨rfl,rfl⟩ l f c
  refine R q 2 c j fun a c=>?_;rcases Bo (!ag) with g | g
  · replace d:=ct g d;have c:=c.tr (t:=12) j g;refine R q 11 c j fun a c=>E (T ?_);cases d;exact ⟨o,l,c.kp j,f⟩
  replace d:=cf g d;have c:=c.tr (t:=12) j g;refine R q 1 c j fun a c=>?_;rcases ((p.m l)).cases with ⟨m,rfl⟩ | ⟨ba,ap,cs,m,rfl,ab,y⟩
  · cases op_n m d
  replace d:=op_s m d;obtain ⟨aj,ak,au,al,av,rfl,a0,x,a1⟩:=Tstore_DB.inv.1 ab
  refine R q 2 c j fun a c=>L f c j (Fg q y 1 j j j j) j fun a c=>R q 1 c j fun a c=>?_;obtain ⟨bb,s,d⟩:=bd d
  obtain ⟨aq,a6,cs,ad,ac,z⟩:=Sa x (Go s).1 (Go s).2;obtain ⟨am,aw,an,ax,ao,ay,rfl,a2,a3,a4⟩:=TRelation.inv.1 ac
  refine L f c j (I q ad j j j) j fun a c=>R q 1 c j fun a c=>L f c j (Fg q z 5 j j j j) j fun a c=>R q 3 c j fun a c=>E (T ?_)
  cases d;exact ⟨o,l,c.kp j,f⟩

theorem cl_14:Callable Tryz.prog 14:=⟨_,Tryz.func14,by kernel_rfl,by kernel_rfl⟩

def store_DB_Fits.C (s:(Option Tstore_DB)→Int→(List TValue)→Option Int):Prop:=∀ {h i d r},s h i d=some r→∀ {c b e f g},Inv c b [] b [] c→(Pt b e 95 Tstore_DB.d h)→(Sl b f g 3 (d.map TValue.d))→Calls Tryz.prog 14 #[.pointer e,i_ i,.slice f d.length g] c (Ret c b [] fun G' L' v=>L'=[]∧v=i_ r)

theorem store_DB_Fits.ok (k:Nat):store_DB_Fits.C (store_DB_Fits k):=by
  intro h p s r d t m i l n f g o
  unfold store_DB_Fits at d
  refine Ci 67 Tryz.func14 j j j fun a c=>?_
  
  refine S (G (R q 1 c j fun a c=>E (T (S (O (S (G (R q 1 c j fun a c=>L f c j (f_pnil up_29 g j j) j fun a c=>R q 1 c j fun a c=>E (T (Cc (b:=h.isNone) c j (fun e=>?_) (fun e=>?_)))))))))))
  rotate_left
  · replace d:=cf e d;cases d
  replace d:=ct e d;refine S (G (R q 1 c j fun a c=>E (T (V (Xb (Xr ?_))))));cases d;refine N (v:=_) c j ⟨_,_,_,j,f.nil,j,j⟩

theorem cl_15:Callable Tryz.prog 15:=⟨_,Tryz.func15,by kernel_rfl,by kernel_rfl⟩

def law12_alive.C (s:Option Bool):Prop:=∀ {r},s=some r→∀ {b c},Inv b c [] c [] b→Calls Tryz.prog 15 #[] b (Ret b c [] fun G' L' v=>L'=[]∧v = .bool r)

theorem law12_alive.ok (k:Nat):law12_alive.C (law12_alive k):=by
  intro r b e d c
  cases b
  exact yes_ok Kg_0_ok j c

theorem cl_16:Callable Tryz.prog 16:=⟨_,Tryz.func16,by kernel_rfl,by kernel_rfl⟩

def store_DB_Copy.C (s:(Option Tstore_DB)→Option (Option Tstore_DB)):Prop:=∀ {f r},s f=some r→∀ {c b d},Inv c b [] b [] c→(Pt b d 95 Tstore_DB.d f)→Calls Tryz.prog 16 #[.pointer d] c (Ret c b [] fun G' L' v=>(match r with | none=>L'=[]∧v = .pointer none | some q_=>∃ e A0_0_ A0_1_ c0_1_ A0_2_ c0_2_ e0_2_,L'=[.blk e [.pointer A0_0_,.slice A0_1_ q_.rels_.length c0_1_,.slice A0_2_ q_.rows_.length c0_2_] 95,.row (.slice A0_2_ q_.rows_.length c0_2_) 39 1 q_.rows_.length e0_2_]∧v=(P e)∧Pt G' A0_0_ 168 Tschema_Catalog.d q_.c_∧Sl G' A0_1_ c0_1_ 6 (q_.rels_.map TRelation.d)∧RL G' 1 (q_.rows_.map (fun l=>D.sl 1 (l.map (fun l=>D.sl 3 (l.map TValue.d))))) e0_2_))

theorem store_DB_Copy.ok (k:Nat):store_DB_Copy.C (store_DB_Copy k):=by
  intro h r d m l i f g
  unfold store_DB_Copy at d
  refine Ci 40 Tryz.func16 j j j fun a c=>?_
  
  refine S (G (R q 1 c j fun a c=>E (T (S (S (G (R q 1 c j fun a c=>L f c j (f_pnil up_29 g j j) j fun a c=>E (T (Cc (b:=h.isNone) c j (fun e=>?_) (fun e=>?_))))))))))
  rotate_left
  · replace d:=cf e d;cases d
  replace d:=ct e d;refine S (G (R q 1 c j fun a c=>E (T (V (Xr ?_)))));cases d;refine N (v:=_) c j ⟨_,_,_,j,f,j,j⟩

theorem cl_17:Callable Tryz.prog 17:=⟨_,Tryz.func17,by kernel_rfl,by kernel_rfl⟩

def store_DB_Put.C (s:(Option Tstore_DB)→Int→(List (List TValue))→Option Int):Prop:=∀ {h i d r},s h i d=some r→∀ {c b e f g},Inv c b [] b [] c→(Pt b e 95 Tstore_DB.d h)→(Sl b f g 1 (d.map (fun l=>D.sl 3 (l.map TValue.d))))→Calls Tryz.prog 17 #[.pointer e,i_ i,.slice f d.length g] c (Ret c b [] fun G' L' v=>L'=[]∧v=i_ r)

theorem store_DB_Put.ok (k:Nat):store_DB_Put.C (store_DB_Put k):=by
  intro z aa ab r d ac p n o u e g x
  unfold store_DB_Put at d
  refine Ci 78 Tryz.func17 j j j fun a c=>?_
  refine S (G (R q 1 c j fun a c=>E (T (S (S (G (R q 2 c j fun a c=>?_)))))));obtain ⟨m,l,d⟩:=bd d
  refine J cl_47 e c j j ((store_DB_has.ok k) l e.pass0 g) j ?_;rintro a w _ s _ ⟨rfl,rfl⟩ h e c
  refine R q 1 c j fun a c=>E (T (Cc (b:=!m) c j (fun f=>?_) (fun f=>?_)));rotate_left
  · replace d:=cf f d;cases d
  replace d:=ct f d;refine S (G (R q 2 c j fun a c=>?_));obtain ⟨ad,i,d⟩:=bd d
  refine J cl_14 e c j j ((store_DB_Fits.ok k) i e.pass0 (g.m h) (Sn _ _ _ _ (Nat.zero_le _))) j ?_;rintro a w _ t _ ⟨rfl,rfl⟩ y e c
  refine R q 1 c j fun a c=>E (T (V (Xr ?_)));cases d;refine N (v:=_) c j ⟨_,_,_,j,e.nil,j,j⟩

theorem cl_21:Callable Tryz.prog 21:=⟨_,Tryz.func21,by kernel_rfl,by kernel_rfl⟩

def store_DB_Rows.C (s:(Option Tstore_DB)→Int→Option (List (List TValue))):Prop:=∀ {h i r},s h i=some r→∀ {c b e},Inv c b [] b [] c→(Pt b e 95 Tstore_DB.d h)→Calls Tryz.prog 21 #[.pointer e,i_ i] c (Ret c b [] fun G' L' v=>∃ d f g,L'=[.row (.slice d r.length f) 28 1 r.length g]∧v = .slice d r.length f∧RL G' 1 (r.map (fun l=>D.sl 3 (l.map TValue.d))) g)

theorem store_DB_Rows.ok (k:Nat):store_DB_Rows.C (store_DB_Rows k):=by
  intro t u r d x p o e h
  unfold store_DB_Rows at d
  refine Ci 17 Tryz.func21 j j j fun a c=>?_
  refine S (G (R q 1 c j fun a c=>E (T (S (S (G (R q 2 c j fun a c=>?_)))))));obtain ⟨n,m,d⟩:=bd d
  refine J cl_47 e c j j ((store_DB_has.ok k) m e.pass0 h) j ?_;rintro a w _ g _ ⟨rfl,rfl⟩ s e c
  refine R q 1 c j fun a c=>E (T (Cc (b:=!n) c j (fun f=>?_) (fun f=>?_)));rotate_left
  · replace d:=cf f d;cases d
  replace d:=ct f d;refine S (G (R q 1 c j fun a c=>E (T ?_)));have e:=e.nilrow 28 1;have i:RL g 1 (([]:List (List TValue)).map (fun l=>D.sl 3 (l.map TValue.d))) []:=Rn
  refine V (Xr ?_);cases d;refine N (v:=_) c j ⟨_,_,_,j,e,none,0,[],j,j,i⟩

theorem cl_103:Callable Tryz.prog 103:=⟨_,Tryz.func103,by kernel_rfl,by kernel_rfl⟩

def slices_IndexFunc_api_Value_api_Value.C (s:(List (List TValue))→((List TValue)→Option Bool)→Option Int):Prop:=∀ {d h r},s d h=some r→∀ {c b e g f},Inv c b [] b [] c→(Sl b e g 1 (d.map (fun l=>D.sl 3 (l.map TValue.d))))→(Fk120 b f h)→Calls Tryz.prog 103 #[.slice e d.length g,f] c (Ret c b [] fun G' L' v=>L'=[]∧v=i_ r)

theorem slices_IndexFunc_api_Value_api_Value.ok (k:Nat):slices_IndexFunc_api_Value_api_Value.C (slices_IndexFunc_api_Value_api_Value k):=by
  intro ab ao r d ae l ap av ar f y ak
  unfold slices_IndexFunc_api_Value_api_Value at d
  refine Ci 19 Tryz.func103 j j j fun a c=>?_
  refine S (G (R q 1 c j fun a c=>E (T (S (S (G (R q 3 c j fun a c=>E (T ?_))))))));obtain ⟨aa,i,z⟩:=bd d
  refine X c f (fun e L a' w'=>∃ ad p,aa = .go ad∧l.le p∧Env a' 19 []∧Inv ae l [] p L w') ?_ ?_;rotate_left
  · rintro a w ⟨ad,p,rfl,ax,c,f⟩;have d:=Lg z;refine T (S (G (R q 1 c j fun a c=>E (T (V ?_)))));cases d;refine N (v:=_) c j ⟨_,_,_,j,f.nil,j,j⟩
  
  refine O (Q c f (fun e L n' a' w'=>∃ i37 g ac m,n'=List.length g∧i37≤ab.length∧ab.drop i37=g∧forL (slices_IndexFunc_api_Value_api_Value.b0 k ao) i37 g ac=some aa∧l.le m∧Env a' 19 (sl e [0,1,7] [(8,i_ (i37:Int))])∧Inv ae l [] m L w') _ ⟨0,_,_,l,j,Nat.zero_le _,j,i,rf,c.kp j,f⟩ ?_)
  rintro ay a w ⟨i37,g,ac,m,rfl,al,n,i,o,c,f⟩;rcases g with _ | ⟨a1,g⟩
  · obtain rfl:=Fn i;have x:=Do n al;refine S (G (R q 1 c j fun a c=>E (T (S ?_))));have c:=c.tr (t:=9) j (decide_eq_false (by omega))
    refine Fa c j (Ex (Xe (Xe (Xh (T (⟨_,m,j,o,c.kp j,f⟩))))))
  obtain ⟨a0,d,i⟩:=Fs i;obtain ⟨am,n,x⟩:=Dc n;unfold slices_IndexFunc_api_Value_api_Value.b0 at d;refine S (G (R q 1 c j fun a c=>E (T (S ?_))))
  have c:=c.tr (t:=9) j (decide_eq_true (by omega))
  refine Tr c j (K (T (S (O (S (G (R q 2 c j fun a c=>E (T (S (G (R q 3 c j fun a c=>?_)))))))))))
  obtain ⟨au,az,cs,aj,ai,ah⟩:=Sa (y.m o) (Int.natCast_nonneg _) (natIdx am);obtain ⟨aq,aw,rfl,ag⟩:=rep_slm.1 ai
  refine L f c j (I q aj j j j) j fun a c=>L f c j (Fg q ah 0 j j j j) j fun a c=>?_;obtain ⟨af,an,d⟩:=bd d
  refine Cv (S:=fun _ L' u=>L'=[]∧u = .bool af) f c j j j (by exact ⟨_,(ak.m o) _ _ an _ _ _ _ rf f.pass0 ag⟩) (fun _ _ _ h=>h.2) j ?_;intro a w f c
  refine E (T (Cc (b:=af) c j (fun s=>?_) (fun s=>?_)));rotate_left
  · replace d:=cf s d;refine K (xB (T (G (R q 2 c j fun a c=>E (T ?_)))));cases d;have c:=c.setI (t:=8) j (Wc x (Ln y))
    exact ⟨g.length,Nat.lt_succ_self _,i37 + 1,g,_,m,j,x,n,i,o,c.kp j,f⟩
  replace d:=ct s d;refine S (G (R q 2 c j fun a c=>E (T (V (Xb (Xr (Xr (Xb (Xr (Xr ?_))))))))));cases d;obtain rfl:=Nr i;have d:=Le z;cases d
  refine N (v:=_) c j ⟨_,_,_,j,f.nil,j,j⟩

theorem cl_58:Callable Tryz.prog 58:=⟨_,Tryz.func58,by kernel_rfl,by kernel_rfl⟩

def slices_DeleteFunc_api_Value_api_Value.C (s:(List (List TValue))→((List TValue)→Option Bool)→Option (List (List TValue))):Prop:=∀ {d m r},s d m=some r→∀ {c b f i g},Inv c b [] b [] c→(Sl b f i 1 (d.map (fun l=>D.sl 3 (l.map TValue.d))))→(Fk120 b g m)→Calls Tryz.prog 58 #[.slice f d.length i,g] c (Ret c b [] fun G' L' v=>L'=[]∧∃ e h,v = .slice e r.length h∧Sl G' e h 1 (r.map (fun l=>D.sl 3 (l.map TValue.d))))

theorem slices_DeleteFunc_api_Value_api_Value.ok (k:Nat):slices_DeleteFunc_api_Value_api_Value.C (slices_DeleteFunc_api_Value_api_Value k):=by
  intro u x r d y p h i t e g l
  unfold slices_DeleteFunc_api_Value_api_Value at d
  refine Ci 42 Tryz.func58 j j j fun a c=>?_
  refine S (G (R q 1 c j fun a c=>E (T (S (G (R q 2 c j fun a c=>?_))))));obtain ⟨o,n,d⟩:=bd d
  refine J cl_103 e c j j ((slices_IndexFunc_api_Value_api_Value.ok k) n e.pass0 g l) j ?_;rintro a w _ s _ ⟨rfl,rfl⟩ m e c
  refine R q 1 c j fun a c=>E (T (S (S (G (R q 2 c j fun a c=>E (T (Cc (b:=decide (o=(-1:Int))) c j (fun f=>?_) (fun f=>?_))))))));rotate_left
  · replace d:=cf f d;cases d
  replace d:=ct f d;refine S (G (R q 2 c j fun a c=>E (T (V (Xr ?_)))));cases d;refine N (v:=_) c j ⟨_,_,_,j,e.nil,j,h,i,j,(g.m m)⟩

theorem cl_59:Callable Tryz.prog 59:=⟨_,Tryz.func59,by kernel_rfl,by kernel_rfl⟩

def store_DB_Visible_1.C (s:(List TValue)→(Option (Option Tstore_DB))→(Option Int)→Option Bool):Prop:=∀ {d i l r},s d i l=some r→∀ {c b e h f g},Inv c b [] b [] c→(Sl b e h 3 (d.map TValue.d))→(Pt b f 29 (D.op 95 Tstore_DB.d) i)→(Pt b g 3 di l)→Calls Tryz.prog 59 #[.slice e d.length h,.pointer f,.pointer g] c (Ret c b [] fun G' L' v=>L'=[]∧v = .bool r)

theorem store_DB_Visible_1.ok (k:Nat):store_DB_Visible_1.C (store_DB_Visible_1 k):=by
  intro af ag ah r c ai z t ad x y d h i l
  unfold store_DB_Visible_1 at c
  refine Ci 9 Tryz.func59 j j j fun a b=>?_
  refine S (G (R q 1 b j fun a b=>E (T (S (G ?_)))));rcases (i).cases with ⟨e,rfl⟩ | ⟨aj,ab,cs,e,rfl,o,m⟩
  · cases op_n e c
  replace c:=op_s e c;obtain ⟨u,rfl,g⟩:=rep_op.1 o;refine L d b j (Fg q m 0 j j j j) j fun a b=>?_
  rcases (l).cases with ⟨f,rfl⟩ | ⟨ak,ac,cs,f,rfl,p,n⟩
  · cases op_n f c
  replace c:=op_s f c;obtain rfl:=rep_int.1 p;refine L d b j (Fg q n 0 j j j j) j fun a b=>R q 1 b j fun a b=>?_;obtain ⟨al,s,c⟩:=bd c
  refine J cl_13 d b j j ((store_DB_Hidden.ok k) s d.pass0 g h) j ?_;rintro a w _ aa _ ⟨rfl,rfl⟩ ae d b;refine R q 1 b j fun a b=>E (T (V ?_));cases c
  refine N (v:=_) b j ⟨_,_,_,j,d.nil,j,j⟩

theorem cl_18:Callable Tryz.prog 18:=⟨_,Tryz.func18,by kernel_rfl,by kernel_rfl⟩

def store_DB_Visible.C (s:(Option Tstore_DB)→Int→Option (List (List TValue))):Prop:=∀ {g h r},s g h=some r→∀ {c b e},Inv c b [] b [] c→(Pt b e 95 Tstore_DB.d g)→Calls Tryz.prog 18 #[.pointer e,i_ h] c (Ret c b [] fun G' L' v=>L'=[]∧∃ d f,v = .slice d r.length f∧Sl G' d f 1 (r.map (fun l=>D.sl 3 (l.map TValue.d))))

theorem store_DB_Visible.ok (k:Nat):store_DB_Visible.C (store_DB_Visible k):=by
  intro ah ai r d av al e b h
  unfold store_DB_Visible at d
  refine Ci 10 Tryz.func18 j j j fun a c=>?_
  
  refine S (G (s_box b c j j j j fun a w f c b=>s_box b c j j j j fun a w g c b=>R q 1 c j fun a c=>E (T (S (G (L b c j (B q 1 j j j j) j fun a c=>L b c j (B q 0 j j j j) j fun a c=>?_))))))
  obtain ⟨aj,af,d⟩:=bd d;refine J cl_21 b c j j ((store_DB_Rows.ok k) af b.pass0 h) j ?_;rintro a w _ am _ ⟨ak,aq,ar,rfl,rfl,ac⟩ ad b c
  refine L b c j (f_mkfn j) j fun a c=>?_;obtain ⟨an,ae,b,t⟩:=(b.front 0).giveR (xs:=aj.map (fun l=>D.sl 3 (l.map TValue.d))) (by simp) ac
  obtain ⟨o,i,b,aa⟩:=(b.front 1).giveB;have x:Pt o (p_ f) 29 (D.op 95 Tstore_DB.d) (some ah):=Pm (rep_op.2 ⟨e,j,(h.m ((ad.t ae).t i))⟩) aa
  obtain ⟨p,m,b,ab⟩:=(b.front 0).giveB;have y:Pt p (p_ g) 3 di (some ai):=Pm (rep_int.2 j) ab;obtain ⟨aw,ag,d⟩:=bd d
  refine J cl_58 b c j j ((slices_DeleteFunc_api_Value_api_Value.ok k) ag b.pass0 (t.m (i.t m)) (by intro x0_ r_ hr_ w_ H_ e ap hle_ hI_ u;exact ⟨59,[(P f),(P g)],j,cl_59,(store_DB_Visible_1.ok k) hr_ hI_ u ((x.m m).m hle_) (y.m hle_)⟩)) j ?_
  rintro a w _ ao _ ⟨rfl,n,s,rfl,z⟩ au b c;refine R q 1 c j fun a c=>E (T (V ?_));cases d;refine N (v:=_) c j ⟨_,_,_,j,b.nil,j,n,s,j,z⟩

theorem cl_19:Callable Tryz.prog 19:=⟨_,Tryz.func19,by kernel_rfl,by kernel_rfl⟩

def store_DB_Add.C (s:(Option Tstore_DB)→Int→(List TValue)→Option Int):Prop:=∀ {h i d r},s h i d=some r→∀ {c b e f g},Inv c b [] b [] c→(Pt b e 95 Tstore_DB.d h)→(Sl b f g 3 (d.map TValue.d))→Calls Tryz.prog 19 #[.pointer e,i_ i,.slice f d.length g] c (Ret c b [] fun G' L' v=>L'=[]∧v=i_ r)

theorem store_DB_Add.ok (k:Nat):store_DB_Add.C (store_DB_Add k):=by
  intro u x y r d z o m n s e g h
  unfold store_DB_Add at d
  refine Ci 85 Tryz.func19 j j j fun a c=>?_
  refine S (G (R q 1 c j fun a c=>E (T (S (S (G (R q 3 c j fun a c=>?_)))))));obtain ⟨l,i,d⟩:=bd d
  refine J cl_14 e c j j ((store_DB_Fits.ok k) i e.pass0 g h) j ?_;rintro a w _ p _ ⟨rfl,rfl⟩ t e c
  refine R q 1 c j fun a c=>E (T (S (G (R q 2 c j fun a c=>E (T (Cc (b:=!decide (l=(0:Int))) c j (fun f=>?_) (fun f=>?_)))))));rotate_left
  · replace d:=cf f d;cases d
  replace d:=ct f d;refine S (G (R q 2 c j fun a c=>E (T (V (Xr ?_)))));cases d;refine N (v:=_) c j ⟨_,_,_,j,e.nil,j,j⟩

theorem cl_22:Callable Tryz.prog 22:=⟨_,Tryz.func22,by kernel_rfl,by kernel_rfl⟩

def store_DB_Same.C (s:(Option Tstore_DB)→(Option Tstore_DB)→Option Bool):Prop:=∀ {f g r},s f g=some r→∀ {c b d e},Inv c b [] b [] c→(Pt b d 95 Tstore_DB.d f)→(Pt b e 95 Tstore_DB.d g)→Calls Tryz.prog 22 #[.pointer d,.pointer e] c (Ret c b [] fun G' L' v=>L'=[]∧v = .bool r)

theorem store_DB_Same.ok (k:Nat):store_DB_Same.C (store_DB_Same k):=by
  intro x af r d y h ac ad f o p
  unfold store_DB_Same at d
  refine Ci 73 Tryz.func22 j j j fun a c=>?_
  refine S (G (R q 1 c j fun a c=>E (T (S (S ?_)))));obtain ⟨u,d,z⟩:=bd d
  refine X c f (fun e L a' w'=>∃ g,h.le g∧Env a' 73 (sl e [0,1] [(11,.bool u)])∧Inv y h [] g L w') ?_ ?_
  · refine G (R q 1 c j fun a c=>L f c j (f_pnil up_29 o j j) j fun a c=>R q 1 c j fun a c=>?_);rcases Bo x.isNone with l | l
    · replace d:=ct l d;have c:=c.tr (t:=8) j l;refine R q 3 c j fun a c=>E (T ?_);cases d;exact ⟨h,rf,c.kp j,f⟩
    replace d:=cf l d;have c:=c.tr (t:=8) j l;refine R q 1 c j fun a c=>L f c j (f_pnil up_29 p j j) j fun a c=>R q 1 c j fun a c=>E (T ?_);cases d
    exact ⟨h,rf,c.kp j,f⟩
  rintro a w ⟨g,s,c,f⟩;have d:=z;refine T (Cc (b:=u) c j (fun n=>?_) (fun n=>?_));rotate_left
  · replace d:=cf n d;cases d
  replace d:=ct n d;refine S ?_;obtain ⟨ab,d,aa⟩:=bd d;refine X c f (fun e L a' w'=>∃ m,g.le m∧Env a' 73 [(4,.bool ab)]∧Inv y h [] m L w') ?_ ?_;rotate_left
  · rintro a w ⟨m,ae,c,f⟩;have d:=aa;refine T (V (Xr ?_));cases d;refine N (v:=_) c j ⟨_,_,_,j,f.nil,j,j⟩
  refine G (R q 1 c j fun a c=>L f c j (f_pnil up_29 (o.m s) j j) j fun a c=>R q 1 c j fun a c=>?_);rcases Bo x.isNone with i | i;rotate_left
  · replace d:=cf i d;have c:=c.tr (t:=14) j i;refine R q 4 c j fun a c=>E (T ?_);cases d;exact ⟨g,rf,c.kp j,f⟩
  replace d:=ct i d;have c:=c.tr (t:=14) j i;refine R q 1 c j fun a c=>L f c j (f_pnil up_29 (p.m s) j j) j fun a c=>R q 2 c j fun a c=>E (T ?_)
  cases d;exact ⟨g,rf,c.kp j,f⟩

theorem cl_26:Callable Tryz.prog 26:=⟨_,Tryz.func26,by kernel_rfl,by kernel_rfl⟩

def store_New.C (s:(Option Tschema_Catalog)→Option (Option Tstore_DB)):Prop:=∀ {f r},s f=some r→∀ {c b d},Inv c b [] b [] c→(Pt b d 168 Tschema_Catalog.d f)→Calls Tryz.prog 26 #[.pointer d] c (Ret c b [] fun G' L' v=>(match r with | none=>L'=[]∧v = .pointer none | some q_=>∃ e A0_0_ A0_1_ c0_1_ A0_2_ c0_2_ e0_2_,L'=[.blk e [.pointer A0_0_,.slice A0_1_ q_.rels_.length c0_1_,.slice A0_2_ q_.rows_.length c0_2_] 95,.row (.slice A0_2_ q_.rows_.length c0_2_) 39 1 q_.rows_.length e0_2_]∧v=(P e)∧Pt G' A0_0_ 168 Tschema_Catalog.d q_.c_∧Sl G' A0_1_ c0_1_ 6 (q_.rels_.map TRelation.d)∧RL G' 1 (q_.rows_.map (fun l=>D.sl 1 (l.map (fun l=>D.sl 3 (l.map TValue.d))))) e0_2_))

theorem store_New.ok (k:Nat):store_New.C (store_New k):=by
  intro h r d m l i f g
  unfold store_New at d
  refine Ci 15 Tryz.func26 j j j fun a c=>?_
  
  refine S (G (R q 1 c j fun a c=>E (T (S (S (G (R q 1 c j fun a c=>L f c j (f_pnil up_49 g j j) j fun a c=>E (T (Cc (b:=h.isNone) c j (fun e=>?_) (fun e=>?_))))))))))
  rotate_left
  · replace d:=cf e d;cases d
  replace d:=ct e d;refine S (G (R q 1 c j fun a c=>E (T (V (Xr ?_)))));cases d;refine N (v:=_) c j ⟨_,_,_,j,f,j,j⟩

theorem cl_25:Callable Tryz.prog 25:=⟨_,Tryz.func25,by kernel_rfl,by kernel_rfl⟩

def store_Load.C (s:(Option Tschema_Catalog)→(List (List (List TValue)))→Option ((Option Tstore_DB) × Int × Int)):Prop:=∀ {i d r},s i d=some r→∀ {c b e f h},Inv c b [] b [] c→(Pt b e 168 Tschema_Catalog.d i)→(Sl b f h 1 (d.map (fun l=>D.sl 1 (l.map (fun l=>D.sl 3 (l.map TValue.d))))))→Calls Tryz.prog 25 #[.pointer e,.slice f d.length h] c (Ret c b [] fun G' L' v=>(match r.1 with | none=>L'=[]∧v = .tuple ⟨[.pointer none,i_ r.2.1,i_ r.2.2]⟩ | some q_=>∃ g A0_0_ A0_1_ c0_1_ A0_2_ c0_2_ e0_2_,L'=[.blk g [.pointer A0_0_,.slice A0_1_ q_.rels_.length c0_1_,.slice A0_2_ q_.rows_.length c0_2_] 95,.row (.slice A0_2_ q_.rows_.length c0_2_) 39 1 q_.rows_.length e0_2_]∧v = .tuple ⟨[(P g),i_ r.2.1,i_ r.2.2]⟩∧Pt G' A0_0_ 168 Tschema_Catalog.d q_.c_∧Sl G' A0_1_ c0_1_ 6 (q_.rels_.map TRelation.d)∧RL G' 1 (q_.rows_.map (fun l=>D.sl 1 (l.map (fun l=>D.sl 3 (l.map TValue.d))))) e0_2_))

theorem store_Load.ok (k:Nat):store_Load.C (store_Load k):=by
  intro bo ap r d au ag bf bg bk f ay az
  unfold store_Load at d
  refine Ci 33 Tryz.func25 j j j fun a c=>?_
  refine S (G (R q 3 c j fun a c=>E (T (S (G (R q 1 c j fun a c=>?_))))));obtain ⟨be,bb,d⟩:=bd d
  refine J cl_26 f c j j ((store_New.ok k) bb f.pass0 ay) j ?_;intro a w v x L hS a7 f c;rcases p:be with _ | ac
  · replace d:=op_n p d;rw [p] at hS;obtain ⟨rfl,rfl⟩:=hS
    refine R q 1 c j fun a c=>E (T (S (S (G (R q 1 c j fun a c=>L f c j (f_pA up_29 j j j) j fun a c=>E (T (Tr c j (S (G (R q 3 c j fun a c=>E (T (V (Xr ?_)))))))))))))
    cases d;refine N (v:=_) c j ⟨_,_,_,j,f,j,j⟩
  replace d:=op_s p d;rw [p] at hS;obtain ⟨ah,ad,ae,ai,af,aj,ax,rfl,rfl,ak,al,an⟩:=hS
  refine R q 1 c j fun a c=>E (T (S (S (G (R q 1 c j fun a c=>L f c j (f_pA up_29 j j j) j fun a c=>E (T (Fa c j (K (T (S (S (G (R q 3 c j fun a c=>E (T ?_))))))))))))))
  obtain ⟨ao,g,am⟩:=bd d;refine X c f (fun e L a' w'=>∃ ar s,ao = .go ar∧x.le s∧Env a' 33 (sl e [7] [])∧Inv au ag [] s L w') ?_ ?_;rotate_left
  · rintro a w ⟨ar,s,rfl,aa,c,f⟩;have d:=Lg am;refine T (S (G (R q 4 c j fun a c=>E (T (V ?_)))));cases d
    refine N (v:=_) c j ⟨_,_,_,j,f,ah,ad,ae,ai,af,aj,ax,j,j,(ak.m aa),(al.m aa),(an.m aa)⟩
  
  refine O (Q c f (fun e L n' a' w'=>∃ i65 i aq n,n'=List.length i∧i65≤ap.length∧ap.drop i65=i∧forL (store_Load.b0 k ac) i65 i aq=some ao∧x.le n∧Env a' 33 (sl e [7,15,16] [(17,i_ (i65:Int))])∧Inv au ag [] n L w') _ ⟨0,_,_,x,j,Nat.zero_le _,j,g,rf,c.kp j,f⟩ ?_)
  rintro bm a w ⟨i65,i,aq,n,rfl,a8,z,g,m,c,f⟩;rcases i with _ | ⟨bq,i⟩
  · obtain rfl:=Fn g;have a9:=Do z a8;refine S (G (R q 1 c j fun a c=>E (T (S ?_))));have c:=c.tr (t:=18) j (decide_eq_false (by omega))
    refine Fa c j (Ex (Xe (Xe (Xh (T (⟨_,n,j,m,c.kp j,f⟩))))))
  obtain ⟨bp,d,g⟩:=Fs g;obtain ⟨ba,z,a9⟩:=Dc z;unfold store_Load.b0 at d;refine S (G (R q 1 c j fun a c=>E (T (S ?_))))
  have c:=c.tr (t:=18) j (decide_eq_true (by omega));refine Tr c j (K (T (S (O (S (G (R q 1 c j fun a c=>?_)))))))
  obtain ⟨bj,bn,cs,a6,a5,a3⟩:=Sa (az.m (a7.t m)) (Int.natCast_nonneg _) (natIdx ba);obtain ⟨bh,bl,rfl,a0⟩:=rep_slm.1 a5
  refine L f c j (I q a6 j j j) j fun a c=>L f c j (Fg q a3 0 j j j j) j fun a c=>R q 2 c j fun a c=>E (T (S (G (R q 3 c j fun a c=>?_))))
  obtain ⟨av,bc,d⟩:=bd d
  refine Cl (S:=fun _ L' u=>L'=[]∧u=i_ av) cl_17 f c j j (by obtain ⟨bi,ab,f,a1⟩:=(f.front 1).giveR (xs:=ac.rows_.map (fun l=>D.sl 1 (l.map (fun l=>D.sl 3 (l.map TValue.d))))) (by simp) (an.m m);obtain ⟨aw,o,f,a4⟩:=(f.front 0).giveB;have a2:Pt aw (p_ ah) 95 Tstore_DB.d (some ac):=Pm (Tstore_DB.inv.2 ⟨ad,ae,ai,af,aj,j,(ak.m ((m.t ab).t o)),(al.m ((m.t ab).t o)),(a1.m o)⟩) a4;exact ⟨_,(store_DB_Put.ok k) bc f.pass0 a2 (a0.m (ab.t o))⟩) (fun _ _ _ h=>h.2) j ?_
  intro a w f c;refine R q 1 c j fun a c=>E (T (S (G (R q 2 c j fun a c=>E (T (Cc (b:=!decide (av=(0:Int))) c j (fun y=>?_) (fun y=>?_)))))));rotate_left
  · replace d:=cf y d;cases d
  replace d:=ct y d;refine S (G (R q 6 c j fun a c=>E (T (V (Xb (Xr (Xr (Xb (Xr (Xr ?_))))))))));cases d;obtain rfl:=Nr g;have d:=Le am;cases d
  refine N (v:=_) c j ⟨_,_,_,j,(f.pick [] (by decide) j),j,j⟩

theorem cl_27:Callable Tryz.prog 27:=⟨_,Tryz.func27,by kernel_rfl,by kernel_rfl⟩

def store_DB_Catalog.C (s:(Option Tstore_DB)→Option (Option Tschema_Catalog)):Prop:=∀ {f r},s f=some r→∀ {c b e},Inv c b [] b [] c→(Pt b e 95 Tstore_DB.d f)→Calls Tryz.prog 27 #[.pointer e] c (Ret c b [] fun G' L' v=>L'=[]∧∃ d,v = .pointer d∧Pt G' d 168 Tschema_Catalog.d r)

theorem store_DB_Catalog.ok (k:Nat):store_DB_Catalog.C (store_DB_Catalog k):=by
  intro h r d m l i f g
  unfold store_DB_Catalog at d
  refine Ci 9 Tryz.func27 j j j fun a c=>?_
  
  refine S (G (R q 1 c j fun a c=>E (T (S (S (G (R q 1 c j fun a c=>L f c j (f_pnil up_29 g j j) j fun a c=>E (T (Cc (b:=h.isNone) c j (fun e=>?_) (fun e=>?_))))))))))
  rotate_left
  · replace d:=cf e d;cases d
  replace d:=ct e d;refine S (G (R q 1 c j fun a c=>E (T (V (Xr ?_)))));cases d;refine N (v:=_) c j ⟨_,_,_,j,f.nil,j,none,j,Pn⟩

theorem cl_6:Callable Tryz.prog 6:=⟨_,Tryz.func6,by kernel_rfl,by kernel_rfl⟩

def law12_StoreNil.C (s:Int→(List TValue)→Option Bool):Prop:=∀ {g d r},s g d=some r→∀ {c b e f},Inv c b [] b [] c→(Sl b e f 3 (d.map TValue.d))→Calls Tryz.prog 6 #[i_ g,.slice e d.length f] c (Ret c b [] fun G' L' v=>L'=[]∧v = .bool r)

theorem law12_StoreNil.ok (k:Nat):law12_StoreNil.C (law12_StoreNil k):=by
  intro dk dl r c ar al bz cr d ai
  unfold law12_StoreNil at c
  refine Ci 80 Tryz.func6 j j j fun a b=>?_
  refine S (G (R q 1 b j fun a b=>E (T (S (G (R q 1 b j fun a b=>E (T (S (G ?_)))))))));obtain ⟨au,a8,c⟩:=bd c
  refine J cl_25 d b j j ((store_Load.ok k) a8 d.pass0 Pn (Sn _ _ _ _ (Nat.zero_le _))) j ?_;intro a w v am L hS aj d b;rcases ad:au.1 with _ | dn
  · replace c:=op_n ad c;rw [ad] at hS;obtain ⟨rfl,rfl⟩:=hS;refine R q 7 b j fun a b=>E (T (S ?_));obtain ⟨bm,c,a5⟩:=bd c
    refine X b d (fun e L a' w'=>∃ ag,am.le ag∧Env a' 80 [(4,.bool bm)]∧Inv ar al [] ag L w') ?_ ?_;rotate_left
    · rintro a w ⟨ag,dg,b,d⟩;have c:=a5;refine T (V ?_);cases c;refine N (v:=_) b j ⟨_,_,_,j,d.nil,j,j⟩
    refine G ?_;obtain ⟨bn,a9,c⟩:=bd c;refine J cl_26 d b j j ((store_New.ok k) a9 d.pass0 Pn) j ?_;intro a w v an L hS f d b;rcases ac:bn with _ | dm
    · replace c:=op_n ac c;rw [ac] at hS;obtain ⟨rfl,rfl⟩:=hS
      refine L d b j (f_pA up_29 j j j) j fun a b=>R q 2 b j fun a b=>L d b j (f_pA up_29 j j j) j fun a b=>R q 6 b j fun a b=>?_
      rcases Bo (decide (au.2.2=(1:Int))) with o | o;rotate_left
      · replace c:=cf o c;have b:=b.tr (t:=24) j o;refine R q 56 b j fun a b=>E (T ?_);cases c;exact ⟨an,f,b.kp j,d⟩
      replace c:=ct o c;have b:=b.tr (t:=24) j o;refine R q 1 b j fun a b=>?_;obtain ⟨bo,ba,c⟩:=bd c
      refine J cl_27 d b j j ((store_DB_Catalog.ok k) ba d.pass0 Pn) j ?_;rintro a w _ av _ ⟨rfl,b3,rfl,a4⟩ g d b
      refine L d b j (f_pnil up_49 a4 j j) j fun a b=>R q 2 b j fun a b=>?_;rcases Bo bo.isNone with p | p;rotate_left
      · replace c:=cf p c;have b:=b.tr (t:=29) j p;refine R q 51 b j fun a b=>E (T ?_);cases c;exact ⟨av,(f.t g),b.kp j,d⟩
      replace c:=ct p c;have b:=b.tr (t:=29) j p;refine R q 2 b j fun a b=>?_;obtain ⟨bp,bb,c⟩:=bd c
      refine J cl_21 d b j j ((store_DB_Rows.ok k) bb d.pass0 Pn) j ?_;rintro a w _ cg _ ⟨b4,cn,cy,rfl,rfl,dc⟩ h d b;refine R q 3 b j fun a b=>?_
      obtain ⟨bq,bc,c⟩:=bd c;refine J cl_18 d b j j ((store_DB_Visible.ok k) bc d.pass0 Pn) j ?_;rintro a w _ aw _ ⟨rfl,b6,co,rfl,c4⟩ i d b
      refine R q 5 b j fun a b=>?_;rcases Bo (decide ((w64 ((bp.length:Int) + (bq.length:Int)))=(0:Int))) with s | s;rotate_left
      · replace c:=cf s c;have b:=b.tr (t:=41) j s;refine R q 39 b j fun a b=>E (T ?_);cases c;exact ⟨aw,(((f.t g).t h).t i),b.kp j,(d.dropN 1 j)⟩
      replace c:=ct s c;have b:=b.tr (t:=41) j s;refine R q 3 b j fun a b=>?_;obtain ⟨br,be,c⟩:=bd c
      refine J cl_13 d b j j ((store_DB_Hidden.ok k) be d.pass0 Pn (ai.m ((((aj.t f).t g).t h).t i))) j ?_;rintro a w _ ax _ ⟨rfl,rfl⟩ l d b
      refine R q 3 b j fun a b=>?_;rcases Bo (!br) with u | u;rotate_left
      · replace c:=cf u c;have b:=b.tr (t:=48) j u;refine R q 32 b j fun a b=>E (T ?_);cases c
        exact ⟨ax,((((f.t g).t h).t i).t l),b.kp j,(d.dropN 1 j)⟩
      replace c:=ct u c;have b:=b.tr (t:=48) j u;refine R q 3 b j fun a b=>?_;obtain ⟨bs,bf,c⟩:=bd c
      refine J cl_14 d b j j ((store_DB_Fits.ok k) bf d.pass0 Pn (ai.m (((((aj.t f).t g).t h).t i).t l))) j ?_;rintro a w _ ay _ ⟨rfl,rfl⟩ m d b
      refine R q 3 b j fun a b=>?_;rcases Bo (decide (bs=(1:Int))) with x | x;rotate_left
      · replace c:=cf x c;have b:=b.tr (t:=55) j x;refine R q 25 b j fun a b=>E (T ?_);cases c
        exact ⟨ay,(((((f.t g).t h).t i).t l).t m),b.kp j,(d.dropN 1 j)⟩
      replace c:=ct x c;have b:=b.tr (t:=55) j x;refine R q 2 b j fun a b=>?_;obtain ⟨bt,bg,c⟩:=bd c
      refine J cl_17 d b j j ((store_DB_Put.ok k) bg d.pass0 Pn (Sn _ _ _ _ (Nat.zero_le _))) j ?_;rintro a w _ az _ ⟨rfl,rfl⟩ n d b;refine R q 3 b j fun a b=>?_
      rcases Bo (decide (bt=(1:Int))) with y | y;rotate_left
      · replace c:=cf y c;have b:=b.tr (t:=61) j y;refine R q 19 b j fun a b=>E (T ?_);cases c
        exact ⟨az,((((((f.t g).t h).t i).t l).t m).t n),b.kp j,(d.dropN 1 j)⟩
      replace c:=ct y c;have b:=b.tr (t:=61) j y;refine R q 3 b j fun a b=>?_;obtain ⟨bu,bh,c⟩:=bd c
      refine J cl_19 d b j j ((store_DB_Add.ok k) bh d.pass0 Pn (ai.m (((((((aj.t f).t g).t h).t i).t l).t m).t n))) j ?_
      rintro a w _ a0 _ ⟨rfl,rfl⟩ ab d b;refine R q 3 b j fun a b=>?_;rcases Bo (decide (bu=(1:Int))) with z | z;rotate_left
      · replace c:=cf z c;have b:=b.tr (t:=68) j z;refine R q 12 b j fun a b=>E (T ?_);cases c
        exact ⟨a0,(((((((f.t g).t h).t i).t l).t m).t n).t ab),b.kp j,(d.dropN 1 j)⟩
      replace c:=ct z c;have b:=b.tr (t:=68) j z;refine R q 1 b j fun a b=>?_;obtain ⟨bv,bi,c⟩:=bd c
      refine J cl_16 d b j j ((store_DB_Copy.ok k) bi d.pass0 Pn) j ?_;intro a w v a1 L hS ak d b;rcases ae:bv with _ | dp
      · replace c:=op_n ae c;rw [ae] at hS;obtain ⟨rfl,rfl⟩:=hS;refine L d b j (f_pA up_29 j j j) j fun a b=>R q 3 b j fun a b=>?_;obtain ⟨bw,bj,c⟩:=bd c
        refine J cl_22 d b j j ((store_DB_Same.ok k) bj d.pass0 Pn Pn) j ?_;rintro a w _ a2 _ ⟨rfl,rfl⟩ ap d b;refine R q 2 b j fun a b=>?_;rcases Bo bw with aa | aa
        rotate_left
        · replace c:=cf aa c;have b:=b.tr (t:=77) j aa;refine R q 3 b j fun a b=>E (T ?_);cases c
          exact ⟨a2,(((((((((f.t g).t h).t i).t l).t m).t n).t ab).t ak).t ap),b.kp j,(d.dropN 1 j)⟩
        replace c:=ct aa c;have b:=b.tr (t:=77) j aa;obtain ⟨dr,bk,c⟩:=bd c;refine J cl_15 d b j j ((law12_alive.ok kAlive) bk d.pass0 ) j ?_
        rintro a w _ a3 _ ⟨rfl,rfl⟩ a7 d b;refine R q 2 b j fun a b=>E (T ?_);cases c
        exact ⟨a3,((((((((((f.t g).t h).t i).t l).t m).t n).t ab).t ak).t ap).t a7),b.kp j,(d.dropN 1 j)⟩
      replace c:=op_s ae c;rw [ae] at hS;obtain ⟨cj,b8,b9,cq,ca,cs,cz,rfl,rfl,c6,c7,dd⟩:=hS
      refine L d b j (f_pA up_29 j j j) j fun a b=>R q 9 b j fun a b=>E (T ?_);cases c
      exact ⟨a1,((((((((f.t g).t h).t i).t l).t m).t n).t ab).t ak),b.kp j,(d.dropN 3 j)⟩
    replace c:=op_s ac c;rw [ac] at hS;obtain ⟨ch,b0,b1,cl,b2,cm,cx,rfl,rfl,c2,c3,db⟩:=hS
    refine L d b j (f_pA up_29 j j j) j fun a b=>R q 65 b j fun a b=>E (T ?_);cases c;exact ⟨an,f,b.kp j,(d.dropN 2 j)⟩
  replace c:=op_s ad c;rw [ad] at hS;obtain ⟨ci,b5,b7,cp,cb,cu,c0,rfl,rfl,c5,c8,df⟩:=hS;refine R q 7 b j fun a b=>E (T (S ?_));obtain ⟨dj,c,a6⟩:=bd c
  refine X b d (fun e L a' w'=>∃ ah,am.le ah∧Env a' 80 (sl e [4] [])∧Inv ar al [] ah [] w') ?_ ?_;rotate_left
  · rintro a w ⟨ah,dh,b,d⟩;have c:=a6;refine T (V ?_);cases c;refine N (v:=_) b j ⟨_,_,_,j,d.nil,j,j⟩
  refine G ?_;obtain ⟨bx,bl,c⟩:=bd c;refine J cl_26 d b j j ((store_New.ok k) bl d.pass0 Pn) j ?_;intro a w v ao L hS aq d b;rcases af:bx with _ | dq
  · replace c:=op_n af c;rw [af] at hS;obtain ⟨rfl,rfl⟩:=hS
    refine L d b j (f_pA up_29 j j j) j fun a b=>R q 2 b j fun a b=>L d b j (f_pA up_29 j j j) j fun a b=>R q 62 b j fun a b=>E (T ?_);cases c
    exact ⟨ao,aq,b.kp j,(d.dropN 2 j)⟩
  replace c:=op_s af c;rw [af] at hS;obtain ⟨ck,cc,cd,cv,ce,cw,c1,rfl,rfl,c9,da,de⟩:=hS
  refine L d b j (f_pA up_29 j j j) j fun a b=>R q 65 b j fun a b=>E (T ?_);cases c;exact ⟨ao,aq,b.kp j,(d.dropN 4 j)⟩

theorem cl_28:Callable Tryz.prog 28:=⟨_,Tryz.func28,by kernel_rfl,by kernel_rfl⟩

def law20_alive.C (s:Option Bool):Prop:=∀ {r},s=some r→∀ {b c},Inv b c [] c [] b→Calls Tryz.prog 28 #[] b (Ret b c [] fun G' L' v=>L'=[]∧v = .bool r)

theorem law20_alive.ok (k:Nat):law20_alive.C (law20_alive k):=by
  intro r b e d c
  cases b
  exact yes_ok Kl_0_ok j c

theorem cl_29:Callable Tryz.prog 29:=⟨_,Tryz.func29,by kernel_rfl,by kernel_rfl⟩

def erase_Show.C (s:(Option Tstore_DB)→Int→Option (List TView)):Prop:=∀ {g h r},s g h=some r→∀ {c b e},Inv c b [] b [] c→(Pt b e 95 Tstore_DB.d g)→Calls Tryz.prog 29 #[.pointer e,i_ h] c (Ret c b [] fun G' L' v=>L'=[]∧∃ d f,v = .slice d r.length f∧Sl G' d f 3 (r.map TView.d))

theorem erase_Show.ok (k:Nat):erase_Show.C (erase_Show k):=by
  intro h m r d n l i f g
  unfold erase_Show at d
  refine Ci 29 Tryz.func29 j j j fun a c=>?_
  
  refine S (G (R q 1 c j fun a c=>E (T (S (S (G (R q 1 c j fun a c=>L f c j (f_pnil up_29 g j j) j fun a c=>E (T (Cc (b:=h.isNone) c j (fun e=>?_) (fun e=>?_))))))))))
  rotate_left
  · replace d:=cf e d;cases d
  replace d:=ct e d;refine S (G (R q 1 c j fun a c=>E (T (V (Xr ?_)))));cases d
  refine N (v:=_) c j ⟨_,_,_,j,f.nil,j,none,0,j,(Sn _ _ _ _ (Nat.zero_le _))⟩

theorem cl_32:Callable Tryz.prog 32:=⟨_,Tryz.func32,by kernel_rfl,by kernel_rfl⟩

def erase_Same.C (s:(Option Tstore_DB)→(Option Tstore_DB)→Int→Option Bool):Prop:=∀ {f g h r},s f g h=some r→∀ {c b d e},Inv c b [] b [] c→(Pt b d 95 Tstore_DB.d f)→(Pt b e 95 Tstore_DB.d g)→Calls Tryz.prog 32 #[.pointer d,.pointer e,i_ h] c (Ret c b [] fun G' L' v=>L'=[]∧v = .bool r)

theorem erase_Same.ok (k:Nat):erase_Same.C (erase_Same k):=by
  intro x af ag r d y h ac ad f o p
  unfold erase_Same at d
  refine Ci 26 Tryz.func32 j j j fun a c=>?_
  refine S (G (R q 1 c j fun a c=>E (T (S (S ?_)))));obtain ⟨u,d,z⟩:=bd d
  refine X c f (fun e L a' w'=>∃ g,h.le g∧Env a' 26 (sl e [0,1,2] [(12,.bool u)])∧Inv y h [] g L w') ?_ ?_
  · refine G (R q 1 c j fun a c=>L f c j (f_pnil up_29 o j j) j fun a c=>R q 1 c j fun a c=>?_);rcases Bo x.isNone with l | l
    · replace d:=ct l d;have c:=c.tr (t:=9) j l;refine R q 3 c j fun a c=>E (T ?_);cases d;exact ⟨h,rf,c.kp j,f⟩
    replace d:=cf l d;have c:=c.tr (t:=9) j l;refine R q 1 c j fun a c=>L f c j (f_pnil up_29 p j j) j fun a c=>R q 1 c j fun a c=>E (T ?_);cases d
    exact ⟨h,rf,c.kp j,f⟩
  rintro a w ⟨g,s,c,f⟩;have d:=z;refine T (Cc (b:=u) c j (fun n=>?_) (fun n=>?_));rotate_left
  · replace d:=cf n d;cases d
  replace d:=ct n d;refine S ?_;obtain ⟨ab,d,aa⟩:=bd d;refine X c f (fun e L a' w'=>∃ m,g.le m∧Env a' 26 [(6,.bool ab)]∧Inv y h [] m L w') ?_ ?_;rotate_left
  · rintro a w ⟨m,ae,c,f⟩;have d:=aa;refine T (V (Xr ?_));cases d;refine N (v:=_) c j ⟨_,_,_,j,f.nil,j,j⟩
  refine G (R q 1 c j fun a c=>L f c j (f_pnil up_29 (o.m s) j j) j fun a c=>R q 1 c j fun a c=>?_);rcases Bo x.isNone with i | i;rotate_left
  · replace d:=cf i d;have c:=c.tr (t:=15) j i;refine R q 4 c j fun a c=>E (T ?_);cases d;exact ⟨g,rf,c.kp j,f⟩
  replace d:=ct i d;have c:=c.tr (t:=15) j i;refine R q 1 c j fun a c=>L f c j (f_pnil up_29 (p.m s) j j) j fun a c=>R q 2 c j fun a c=>E (T ?_)
  cases d;exact ⟨g,rf,c.kp j,f⟩

theorem cl_76:Callable Tryz.prog 76:=⟨_,Tryz.func76,by kernel_rfl,by kernel_rfl⟩

def schema_Catalog_Channels.C (s:(Option Tschema_Catalog)→Option (List TNamed)):Prop:=∀ {g r},s g=some r→∀ {c b e},Inv c b [] b [] c→(Pt b e 168 Tschema_Catalog.d g)→Calls Tryz.prog 76 #[.pointer e] c (Ret c b [] fun G' L' v=>L'=[]∧∃ d f,v = .slice d r.length f∧Sl G' d f 2 (r.map TNamed.d))

theorem schema_Catalog_Channels.ok (k:Nat):schema_Catalog_Channels.C (schema_Catalog_Channels k):=by
  intro h r d m l i f g
  unfold schema_Catalog_Channels at d
  refine Ci 10 Tryz.func76 j j j fun a c=>?_
  
  refine S (G (R q 1 c j fun a c=>E (T (S (S (G (R q 1 c j fun a c=>L f c j (f_pnil up_49 g j j) j fun a c=>E (T (Cc (b:=h.isNone) c j (fun e=>?_) (fun e=>?_))))))))))
  rotate_left
  · replace d:=cf e d;cases d
  replace d:=ct e d;refine S (G (R q 1 c j fun a c=>E (T (V (Xr ?_)))));cases d
  refine N (v:=_) c j ⟨_,_,_,j,f.nil,j,none,0,j,(Sn _ _ _ _ (Nat.zero_le _))⟩

theorem cl_77:Callable Tryz.prog 77:=⟨_,Tryz.func77,by kernel_rfl,by kernel_rfl⟩

def schema_Catalog_Lattice.C (s:(Option Tschema_Catalog)→Option (Option Tlattice_Lattice)):Prop:=∀ {f r},s f=some r→∀ {c b e},Inv c b [] b [] c→(Pt b e 168 Tschema_Catalog.d f)→Calls Tryz.prog 77 #[.pointer e] c (Ret c b [] fun G' L' v=>L'=[]∧∃ d,v = .pointer d∧Pt G' d 191 Tlattice_Lattice.d r)

theorem schema_Catalog_Lattice.ok (k:Nat):schema_Catalog_Lattice.C (schema_Catalog_Lattice k):=by
  intro h r d m l i f g
  unfold schema_Catalog_Lattice at d
  refine Ci 9 Tryz.func77 j j j fun a c=>?_
  
  refine S (G (R q 1 c j fun a c=>E (T (S (S (G (R q 1 c j fun a c=>L f c j (f_pnil up_49 g j j) j fun a c=>E (T (Cc (b:=h.isNone) c j (fun e=>?_) (fun e=>?_))))))))))
  rotate_left
  · replace d:=cf e d;cases d
  replace d:=ct e d;refine S (G (R q 1 c j fun a c=>E (T (V (Xr ?_)))));cases d;refine N (v:=_) c j ⟨_,_,_,j,f.nil,j,none,j,Pn⟩

theorem cl_114:Callable Tryz.prog 114:=⟨_,Tryz.func114,by kernel_rfl,by kernel_rfl⟩

def lattice_Lattice_is.C (s:(Option Tlattice_Lattice)→Int→Option Bool):Prop:=∀ {e f r},s e f=some r→∀ {c b d},Inv c b [] b [] c→(Pt b d 191 Tlattice_Lattice.d e)→Calls Tryz.prog 114 #[.pointer d,i_ f] c (Ret c b [] fun G' L' v=>L'=[]∧v = .bool r)

theorem lattice_Lattice_is.ok (k:Nat):lattice_Lattice_is.C (lattice_Lattice_is k):=by
  intro u x r c y f z d m
  unfold lattice_Lattice_is at c
  refine Ci 20 Tryz.func114 j j j fun a b=>?_
  refine S (G (R q 1 b j fun a b=>E (T (S ?_))));obtain ⟨s,c,o⟩:=bd c
  refine X b d (fun e L a' w'=>∃ i,f.le i∧Env a' 20 [(4,.bool s)]∧Inv y f [] i L w') ?_ ?_;rotate_left
  · rintro a w ⟨i,am,b,d⟩;have c:=o;refine T (V ?_);cases c;refine N (v:=_) b j ⟨_,_,_,j,d.nil,j,j⟩
  refine G (R q 1 b j fun a b=>L d b j (f_pnn up_137 m j j) j fun a b=>R q 1 b j fun a b=>?_);rcases Bo (!u.isNone) with g | g;rotate_left
  · replace c:=cf g c;have b:=b.tr (t:=7) j g;refine R q 13 b j fun a b=>E (T ?_);cases c;exact ⟨f,rf,b.kp j,d⟩
  replace c:=ct g c;have b:=b.tr (t:=7) j g;refine R q 4 b j fun a b=>?_;rcases Bo (decide ((0:Int)≤x)) with h | h;rotate_left
  · replace c:=cf h c;have b:=b.tr (t:=11) j h;refine R q 9 b j fun a b=>E (T ?_);cases c;exact ⟨f,rf,b.kp j,d⟩
  replace c:=ct h c;have b:=b.tr (t:=11) j h;refine R q 2 b j fun a b=>?_;rcases (m).cases with ⟨l,rfl⟩ | ⟨an,ae,cs,l,rfl,p,n⟩
  · cases op_n l c
  replace c:=op_s l c;obtain ⟨aa,af,ab,ac,ag,ad,ah,rfl,ai,aj,ak,al⟩:=Tlattice_Lattice.inv.1 p
  refine R q 2 b j fun a b=>L d b j (Fg q n 0 j j j j) j fun a b=>R q 4 b j fun a b=>E (T ?_);cases c;exact ⟨f,rf,b.kp j,d⟩

theorem cl_115:Callable Tryz.prog 115:=⟨_,Tryz.func115,by kernel_rfl,by kernel_rfl⟩

def lattice_set_has.C (s:Int→Int→Option Bool):Prop:=∀ {d e r},s d e=some r→∀ {b c },Inv b c [] c [] b→Calls Tryz.prog 115 #[.int .u32 d,i_ e] b (Ret b c [] fun G' L' v=>L'=[]∧v = .bool r)

theorem lattice_set_has.ok (k:Nat):lattice_set_has.C (lattice_set_has k):=by
  intro g h r c i f  d
  unfold lattice_set_has at c
  refine Ci 10 Tryz.func115 j j j fun a b=>?_
  refine S (G (R q 1 b j fun a b=>E (T (S (G (R q 2 b j fun a b=>?_))))));obtain ⟨l,e,c⟩:=bd c
  refine L d b j (f_shr j j e) j fun a b=>R q 3 b j fun a b=>E (T (V ?_));cases c;refine N (v:=_) b j ⟨_,_,_,j,d.nil,j,j⟩

theorem cl_78:Callable Tryz.prog 78:=⟨_,Tryz.func78,by kernel_rfl,by kernel_rfl⟩

def lattice_Lattice_Leq.C (s:(Option Tlattice_Lattice)→Int→Int→Option Bool):Prop:=∀ {e f g r},s e f g=some r→∀ {c b d},Inv c b [] b [] c→(Pt b d 191 Tlattice_Lattice.d e)→Calls Tryz.prog 78 #[.pointer d,i_ f,i_ g] c (Ret c b [] fun G' L' v=>L'=[]∧v = .bool r)

theorem lattice_Lattice_Leq.ok (k:Nat):lattice_Lattice_Leq.C (lattice_Lattice_Leq k):=by
  intro a4 a5 a6 r c ak o an d l
  unfold lattice_Lattice_Leq at c
  refine Ci 26 Tryz.func78 j j j fun a b=>?_
  refine S (G (R q 1 b j fun a b=>E (T (S ?_))));obtain ⟨aj,c,ab⟩:=bd c
  refine X b d (fun e L a' w'=>∃ i,o.le i∧Env a' 26 [(6,.bool aj)]∧Inv ak o [] i L w') ?_ ?_;rotate_left
  · rintro a w ⟨i,a2,b,d⟩;have c:=ab;refine T (V ?_);cases c;refine N (v:=_) b j ⟨_,_,_,j,d.nil,j,j⟩
  refine G (R q 2 b j fun a b=>?_);obtain ⟨al,ag,c⟩:=bd c;refine J cl_114 d b j j ((lattice_Lattice_is.ok k) ag d.pass0 l) j ?_;rintro a w _ s _ ⟨rfl,rfl⟩ h d b
  refine R q 1 b j fun a b=>?_;rcases Bo al with f | f;rotate_left
  · replace c:=cf f c;have b:=b.tr (t:=10) j f;refine R q 16 b j fun a b=>E (T ?_);cases c;exact ⟨s,h,b.kp j,d⟩
  replace c:=ct f c;have b:=b.tr (t:=10) j f;refine R q 2 b j fun a b=>?_;obtain ⟨am,ah,c⟩:=bd c
  refine J cl_114 d b j j ((lattice_Lattice_is.ok k) ah d.pass0 (l.m h)) j ?_;rintro a w _ u _ ⟨rfl,rfl⟩ m d b;refine R q 2 b j fun a b=>?_;rcases Bo am with g | g
  rotate_left
  · replace c:=cf g c;have b:=b.tr (t:=15) j g;refine R q 11 b j fun a b=>E (T ?_);cases c;exact ⟨u,(h.t m),b.kp j,d⟩
  replace c:=ct g c;have b:=b.tr (t:=15) j g;refine R q 1 b j fun a b=>?_;rcases ((l.m (h.t m))).cases with ⟨n,rfl⟩ | ⟨a7,au,cs,n,rfl,ac,z⟩
  · cases op_n n c
  replace c:=op_s n c;obtain ⟨ao,aw,ap,aq,ax,ar,ay,rfl,az,a0,y,a1⟩:=Tlattice_Lattice.inv.1 ac
  refine R q 2 b j fun a b=>L d b j (Fg q z 2 j j j j) j fun a b=>R q 1 b j fun a b=>?_;obtain ⟨a8,p,c⟩:=bd c
  obtain ⟨av,a3,cs,ae,ad,aa⟩:=Sa y (Go p).1 (Go p).2;obtain rfl:=rep_int.1 ad
  refine L d b j (I q ae j j j) j fun a b=>L d b j (Fg q aa 0 j j j j) j fun a b=>R q 1 b j fun a b=>?_;obtain ⟨a9,ai,c⟩:=bd c
  refine J cl_115 d b j j ((lattice_set_has.ok k) ai d.pass0 ) j ?_;rintro a w _ x _ ⟨rfl,rfl⟩ af d b;refine R q 2 b j fun a b=>E (T ?_);cases c
  exact ⟨x,((h.t m).t af),b.kp j,d⟩

theorem cl_35:Callable Tryz.prog 35:=⟨_,Tryz.func35,by kernel_rfl,by kernel_rfl⟩

def erase_Outs.C (s:(Option Tschema_Catalog)→(List TOut)→Int→Option (List TOut)):Prop:=∀ {l d m r},s l d m=some r→∀ {c b f g i},Inv c b [] b [] c→(Pt b f 168 Tschema_Catalog.d l)→(Sl b g i 4 (d.map TOut.d))→Calls Tryz.prog 35 #[.pointer f,.slice g d.length i,i_ m] c (Ret c b [] fun G' L' v=>L'=[]∧∃ e h,v = .slice e r.length h∧Sl G' e h 4 (r.map TOut.d))
end Go.Proofs.YthaekpmkjfmilaaGreat
