/- The contracts: what the machine does at a call is what the plain function says. Written by mk.py. -/
import Derived.Test.YtlokemkpgnngjaaGreatDoorCtL
set_option linter.unusedVariables false
set_option linter.unusedSimpArgs false
set_option maxRecDepth 100000
namespace Go.Proofs.YtlokemkpgnngjaaGreatDoor
open Go.RowKit
theorem cl_7:Callable Tryz.prog 7:=⟨_,Tryz.func7,by kernel_rfl,by kernel_rfl⟩

def labels_Plan.C (s:(Option Tschema_Catalog)→(List TNamed)→TPlan→Option TSheet):Prop:=∀ {l d m r},s l d m=some r→∀ {c b e f g i},Inv c b [] b [] c→(Pt b e 166 Tschema_Catalog.d l)→(Sl b f g 2 (d.map TNamed.d))→(Rep b m.d i)→Calls Tryz.prog 7 #[.pointer e,.slice f d.length g,.agg ⟨i⟩] c (Ret c b [] fun G' L' v=>L'=[]∧∃ h,v = .agg ⟨h⟩∧Rep G' r.d h)

theorem labels_Plan.ok (k:Nat):labels_Plan.C (labels_Plan k):=by
  intro i al am r e an u l p ac ae d g aj h
  unfold labels_Plan at e
  obtain ⟨s,ad,t,y,m,z,n,aa,o,ab,rfl,ak,af,ag,ah,ai⟩:=TPlan.inv.1 h
  refine Ci 15 Tryz.func7 j j j fun a c=>?_
  
  refine S (G (s_box d c j j j j fun a w v c d=>A d c j z_32 j j fun a w x c d=>E (T (S (S (G (R q 1 c j fun a c=>L d c j (f_pnil up_64 g j j) j fun a c=>E (T (Cc (b:=i.isNone) c j (fun f=>?_) (fun f=>?_))))))))))
  rotate_left
  · replace e:=cf f e;cases e
  replace e:=ct f e;refine S (G (L d c j (Bd q j z_32 j j) j fun a c=>W q 0 d c j j j j j j j j j j fun a w c d=>E (T (V (Xr ?_)))))
  cases e;refine U q c d (.cell 0 j j j j .nil) j ⟨_,_,_,j,d.nil,j,_,j,(TSheet.inv.2 ⟨none,0,j,(Sn _ _ _ _ (Nat.zero_le _))⟩)⟩

theorem cl_8:Callable Tryz.prog 8:=⟨_,Tryz.func8,by kernel_rfl,by kernel_rfl⟩

def labels_Node.C (s:(Option Tschema_Catalog)→(List TNamed)→(List Int)→TNode→Option TMark):Prop:=∀ {n d e o r},s n d e o=some r→∀ {c b f g i h l m},Inv c b [] b [] c→(Pt b f 166 Tschema_Catalog.d n)→(Sl b g i 2 (d.map TNamed.d))→(Sl b h l 1 (e.map di))→(Rep b o.d m)→Calls Tryz.prog 8 #[.pointer f,.slice g d.length i,.slice h e.length l,.agg ⟨m⟩] c (Ret c b [] fun G' L' v=>L'=[]∧v = .agg ⟨[i_ r.Value_,i_ r.Raise,.bool r.Can]⟩)

theorem labels_Node.ok (k:Nat):labels_Node.C (labels_Node k):=by
  intro i af ag ah r e ai s l n y o z aa d g ad ae h
  unfold labels_Node at e
  obtain ⟨p,v,m,x,rfl,ab,ac⟩:=TNode.inv.1 h
  refine Ci 18 Tryz.func8 j j j fun a c=>?_
  
  refine S (G (s_box d c j j j j fun a w t c d=>A d c j z_35 j j fun a w u c d=>E (T (S (S (G (R q 1 c j fun a c=>L d c j (f_pnil up_64 g j j) j fun a c=>E (T (Cc (b:=i.isNone) c j (fun f=>?_) (fun f=>?_))))))))))
  rotate_left
  · replace e:=cf f e;cases e
  replace e:=ct f e;refine S (G (L d c j (Bd q j z_35 j j) j fun a c=>W q 0 d c j j j j j j j j j j fun a w c d=>E (T (V (Xr ?_)))))
  cases e;refine U q c d (.cell 0 j j j j .nil) j ⟨_,_,_,j,d.nil,j,j⟩

theorem cl_75:Callable Tryz.prog 75:=⟨_,Tryz.func75,by kernel_rfl,by kernel_rfl⟩

def slices_Clone_int_int.C (s:(List Int)→Option (List Int)):Prop:=∀ {d r},s d=some r→∀ {c b f h},Inv c b [] b [] c→(Sl b f h 1 (d.map di))→Calls Tryz.prog 75 #[.slice f d.length h] c (Ret c b [] fun G' L' v=>∃ e g i,L'=[.row (.slice e r.length g) 3 1 r.length i]∧v = .slice e r.length g∧RL G' 1 (r.map di) i)

theorem slices_Clone_int_int.ok (k:Nat):slices_Clone_int_int.C (slices_Clone_int_int k):=by
  intro u r d aa e h z c g
  unfold slices_Clone_int_int at d
  refine Ci 8 Tryz.func75 j j j fun a b=>?_
  refine S (G (R q 1 b j fun a b=>E (T (S (S (G (R q 1 b j fun a b=>?_)))))));rcases h with _ | x
  · obtain rfl:=(g).nil0;have d:some []=some r:=d;cases d
    refine L c b j (f_slnil q j j j j) j fun a b=>E (T (Tr b j (S (G (R q 1 b j fun a b=>E (T ?_))))));have c:=c.nilrow 3 1
    have s:RL e 1 (([]:List Int).map di) []:=Rn;refine V (Xr (N (v:=_) b j ⟨_,_,_,j,c,none,0,[],j,j,s⟩))
  refine L c b j (f_slnil q j j j j) j fun a b=>E (T (Fa b j (K (T (S (G (Bs ai_26 c b j j j j j fun a w y b c=>?_)))))))
  have n:RL e 1 (([]:List Int).map di) []:=Rn;refine R q 1 b j fun a b=>?_;obtain ⟨_,t,d⟩:=bd d
  refine s_appG (f:=di) (xs:=([]:List Int)) (ys:=u) ai_26 0 c b j j g j j (Ll t) j fun a w i l m b p c=>?_;have o:=Ra n p
  refine R q 1 b j fun a b=>E (T (V ?_));cases d;refine N (v:=_) b j ⟨_,_,_,j,c,i,l,([] ++ m),j,j,o⟩

theorem cl_79:Callable Tryz.prog 79:=⟨_,Tryz.func79,by kernel_rfl,by kernel_rfl⟩

def slices_Clone_api_Relation_api_Relation.C (s:(List TRelation)→Option (List TRelation)):Prop:=∀ {d r},s d=some r→∀ {c b f h},Inv c b [] b [] c→(Sl b f h 6 (d.map TRelation.d))→Calls Tryz.prog 79 #[.slice f d.length h] c (Ret c b [] fun G' L' v=>∃ e g i,L'=[.row (.slice e r.length g) 75 6 r.length i]∧v = .slice e r.length g∧RL G' 6 (r.map TRelation.d) i)

theorem slices_Clone_api_Relation_api_Relation.ok (k:Nat):slices_Clone_api_Relation_api_Relation.C (slices_Clone_api_Relation_api_Relation k):=by
  intro u r d aa e h z c g
  unfold slices_Clone_api_Relation_api_Relation at d
  refine Ci 8 Tryz.func79 j j j fun a b=>?_
  refine S (G (R q 1 b j fun a b=>E (T (S (S (G (R q 1 b j fun a b=>?_)))))));rcases h with _ | x
  · obtain rfl:=(g).nil0;have d:some []=some r:=d;cases d
    refine L c b j (f_slnil q j j j j) j fun a b=>E (T (Tr b j (S (G (R q 1 b j fun a b=>E (T ?_))))));have c:=c.nilrow 75 6
    have s:RL e 6 (([]:List TRelation).map TRelation.d) []:=Rn;refine V (Xr (N (v:=_) b j ⟨_,_,_,j,c,none,0,[],j,j,s⟩))
  refine L c b j (f_slnil q j j j j) j fun a b=>E (T (Fa b j (K (T (S (G (Bs ai_70 c b j j j j j fun a w y b c=>?_)))))))
  have n:RL e 6 (([]:List TRelation).map TRelation.d) []:=Rn;refine R q 1 b j fun a b=>?_;obtain ⟨_,t,d⟩:=bd d
  refine s_appG (f:=TRelation.d) (xs:=([]:List TRelation)) (ys:=u) ai_70 0 c b j j g j j (Ll t) j fun a w i l m b p c=>?_;have o:=Ra n p
  refine R q 1 b j fun a b=>E (T (V ?_));cases d;refine N (v:=_) b j ⟨_,_,_,j,c,i,l,([] ++ m),j,j,o⟩

theorem cl_80:Callable Tryz.prog 80:=⟨_,Tryz.func80,by kernel_rfl,by kernel_rfl⟩

def slices_Clone_api_Field_api_Field.C (s:(List TField)→Option (List TField)):Prop:=∀ {d r},s d=some r→∀ {c b f h},Inv c b [] b [] c→(Sl b f h 4 (d.map TField.d))→Calls Tryz.prog 80 #[.slice f d.length h] c (Ret c b [] fun G' L' v=>L'=[]∧∃ e g,v = .slice e r.length g∧Sl G' e g 4 (r.map TField.d))

theorem slices_Clone_api_Field_api_Field.ok (k:Nat):slices_Clone_api_Field_api_Field.C (slices_Clone_api_Field_api_Field k):=by
  intro g r d ac l h z c e
  unfold slices_Clone_api_Field_api_Field at d
  refine Ci 8 Tryz.func80 j j j fun a b=>?_
  refine S (G (R q 1 b j fun a b=>E (T (S (S (G (R q 1 b j fun a b=>?_)))))));rcases h with _ | x
  · obtain rfl:=(e).nil0;have d:some []=some r:=d;cases d
    refine L c b j (f_slnil q j j j j) j fun a b=>E (T (Tr b j (S (G (R q 1 b j fun a b=>E (T (V (Xr (N (v:=_) b j ⟨_,_,_,j,c.nil,j,none,0,j,(Sn _ _ _ _ (Nat.zero_le _))⟩)))))))))
  refine L c b j (f_slnil q j j j j) j fun a b=>E (T (Fa b j (K (T (S (G (Bs ai_72 c b j j j j j fun a w y b c=>?_)))))))
  have o:RL l 4 (([]:List TField).map TField.d) []:=Rn;refine R q 1 b j fun a b=>?_;obtain ⟨_,t,d⟩:=bd d
  refine s_appG (f:=TField.d) (xs:=([]:List TField)) (ys:=g) ai_72 0 c b j j e j j (Ll t) j fun a w i m aa b s c=>?_;have p:=Ra o s
  refine R q 1 b j fun a b=>E (T ?_);obtain ⟨u,ab,c,n⟩:=(c.front 0).giveR (xs:=(([]:List TField) ++ g).map TField.d) (by simp) p;refine V ?_;cases d
  refine N (v:=_) b j ⟨_,_,_,j,c.nil,j,i,m,j,n⟩

theorem cl_81:Callable Tryz.prog 81:=⟨_,Tryz.func81,by kernel_rfl,by kernel_rfl⟩

def slices_Clone_api_Expr_api_Expr.C (s:(List TExpr)→Option (List TExpr)):Prop:=∀ {d r},s d=some r→∀ {c b f h},Inv c b [] b [] c→(Sl b f h 6 (d.map TExpr.d))→Calls Tryz.prog 81 #[.slice f d.length h] c (Ret c b [] fun G' L' v=>∃ e g i,L'=[.row (.slice e r.length g) 144 6 r.length i]∧v = .slice e r.length g∧RL G' 6 (r.map TExpr.d) i)

theorem slices_Clone_api_Expr_api_Expr.ok (k:Nat):slices_Clone_api_Expr_api_Expr.C (slices_Clone_api_Expr_api_Expr k):=by
  intro u r d aa e h z c g
  unfold slices_Clone_api_Expr_api_Expr at d
  refine Ci 8 Tryz.func81 j j j fun a b=>?_
  refine S (G (R q 1 b j fun a b=>E (T (S (S (G (R q 1 b j fun a b=>?_)))))));rcases h with _ | x
  · obtain rfl:=(g).nil0;have d:some []=some r:=d;cases d
    refine L c b j (f_slnil q j j j j) j fun a b=>E (T (Tr b j (S (G (R q 1 b j fun a b=>E (T ?_))))));have c:=c.nilrow 144 6
    have s:RL e 6 (([]:List TExpr).map TExpr.d) []:=Rn;refine V (Xr (N (v:=_) b j ⟨_,_,_,j,c,none,0,[],j,j,s⟩))
  refine L c b j (f_slnil q j j j j) j fun a b=>E (T (Fa b j (K (T (S (G (Bs ai_73 c b j j j j j fun a w y b c=>?_)))))))
  have n:RL e 6 (([]:List TExpr).map TExpr.d) []:=Rn;refine R q 1 b j fun a b=>?_;obtain ⟨_,t,d⟩:=bd d
  refine s_appG (f:=TExpr.d) (xs:=([]:List TExpr)) (ys:=u) ai_73 0 c b j j g j j (Ll t) j fun a w i l m b p c=>?_;have o:=Ra n p
  refine R q 1 b j fun a b=>E (T (V ?_));cases d;refine N (v:=_) b j ⟨_,_,_,j,c,i,l,([] ++ m),j,j,o⟩

theorem cl_32:Callable Tryz.prog 32:=⟨_,Tryz.func32,by kernel_rfl,by kernel_rfl⟩

def schema_Catalog_Tables.C (s:(Option Tschema_Catalog)→Option (List TRelation)):Prop:=∀ {g r},s g=some r→∀ {c b e},Inv c b [] b [] c→(Pt b e 166 Tschema_Catalog.d g)→Calls Tryz.prog 32 #[.pointer e] c (Ret c b [] fun G' L' v=>L'=[]∧∃ d f,v = .slice d r.length f∧Sl G' d f 6 (r.map TRelation.d))

theorem schema_Catalog_Tables.ok (k:Nat):schema_Catalog_Tables.C (schema_Catalog_Tables k):=by
  intro c5 r i bp bk c6 h bm
  unfold schema_Catalog_Tables at i
  refine Ci 43 Tryz.func32 j j j fun a d=>?_
  
  refine S (G (R q 1 d j fun a d=>E (T (S (S (G (R q 1 d j fun a d=>L h d j (f_pnil up_64 bm j j) j fun a d=>E (T (Cc (b:=c5.isNone) d j (fun bg=>?_) (fun bg=>?_))))))))))
  · replace i:=ct bg i;refine S (G (R q 1 d j fun a d=>E (T (V (Xr ?_)))));cases i
    refine N (v:=_) d j ⟨_,_,_,j,h.nil,j,none,0,j,(Sn _ _ _ _ (Nat.zero_le _))⟩
  replace i:=cf bg i;refine K (T (S (G (R q 1 d j fun a d=>?_))));rcases (bm).cases with ⟨bi,rfl⟩ | ⟨ej,dm,cs,bi,rfl,cc,ca⟩
  · cases op_n bi i
  replace i:=op_s bi i;obtain ⟨c7,c8,dp,c9,da,dq,db,dr,rfl,d4,bv,d5,d6,d7⟩:=Tschema_Catalog.inv.1 cc
  refine R q 2 d j fun a d=>L h d j (Fg q ca 1 j j j j) j fun a d=>?_;obtain ⟨bj,c1,i⟩:=bd i
  refine J cl_79 h d j j ((slices_Clone_api_Relation_api_Relation.ok k) c1 h.pass0 bv) j ?_;rintro a w _ a8 _ ⟨bq,bt,bu,rfl,rfl,cd⟩ ec h d
  refine R q 1 d j fun a d=>E (T (S (S (G (R q 3 d j fun a d=>E (T ?_))))));have cr:=h.rle (xs:=bj) 0 j;obtain ⟨bo,ab,cb⟩:=bd i
  refine X d h (fun e L a' w'=>∃ z az av a0 bc,bo = .go z∧a8.le az∧Env a' 43 [(3,.slice av z.length a0)]∧Inv bp bk [] az [.row (.slice av z.length a0) 75 6 z.length bc] w'∧RL az 6 (z.map TRelation.d) bc) ?_ ?_
  rotate_left
  · rintro a w ⟨z,az,av,a0,bc,rfl,ed,d,h,ce⟩;have i:=Lg cb;refine T (S (G (R q 2 d j fun a d=>E (T ?_))))
    obtain ⟨dj,ee,h,bw⟩:=(h.front 0).giveR (xs:=z.map TRelation.d) (by simp) ce;refine V ?_;cases i;refine N (v:=_) d j ⟨_,_,_,j,h.nil,j,av,a0,j,bw⟩
  
  refine O (Q d h (fun e L n' a' w'=>∃ i525 u l aj af aa p,n'=List.length u∧i525≤bj.length∧bj.drop i525=u∧forL (schema_Catalog_Tables.b0 k) i525 u l=some bo∧a8.le aj∧Env a' 43 (sl e [14] [(15,i_ (i525:Int)),(3,.slice af l.length aa),(13,.slice af l.length aa)])∧Inv bp bk [] aj [.row (.slice af l.length aa) 75 6 l.length p] w'∧RL aj 6 (l.map TRelation.d) p) _ ⟨0,_,_,a8,bq,bt,bu,j,Nat.zero_le _,j,ab,rf,d.kp j,h,cd⟩ ?_)
  rintro eg a w ⟨i525,u,l,aj,af,aa,p,rfl,cq,a4,ab,bn,d,h,ac⟩;rcases u with _ | ⟨ei,u⟩
  · obtain rfl:=Fn ab;have bh:=Do a4 cq;refine S (G (R q 1 d j fun a d=>E (T (S ?_))));have d:=d.tr (t:=16) j (decide_eq_false (by omega))
    refine Fa d j (Ex (Xe (Xe (Xh (T (⟨_,aj,af,aa,p,j,bn,d.kp j,h,ac⟩))))))
  obtain ⟨eh,i,ab⟩:=Fs ab;obtain ⟨ef,a4,bh⟩:=Dc a4;unfold schema_Catalog_Tables.b0 at i;refine S (G (R q 1 d j fun a d=>E (T (S ?_))))
  have d:=d.tr (t:=16) j (decide_eq_true (by omega));refine Tr d j (K (T (S (O (S (G (R q 1 d j fun a d=>?_)))))));obtain ⟨ek,ap,i⟩:=bd i
  obtain ⟨ak,rfl⟩:=row_ptr 0 h j j (Go ap).2;obtain ⟨d0,eb,cx,cj⟩:=Rt ac (Go ap).2
  obtain ⟨dc,ds,dd,dt,de,du,rfl,bx,bz,b0⟩:=TRelation.inv.1 cx
  refine L h d j (I q (Ro (Go ap).1 (Go ap).2 ak 6) j j j) j fun a d=>L h d j (f_loadR q 0 j cj 0 j j j j (Rl ac (Go ap).2)) j fun a d=>A h d j z_75 j j fun a w dn d h=>R q 1 d j fun a d=>W q 0 h d j j j j j j j j j j fun a w d h=>E (T (Mx [0] [14,17,20,23] (.step 0 0 (.step 1 0 (.step 2 0 (.step 3 0 (.step 4 0 (.step 5 0 (.step 6 0 (.step 7 1 (.step 9 0 (.step 10 1 (.step 12 0 (.step 13 1 (.step 8 2 (.step 11 2 (.step 14 3 (.step 15 0 (.step 16 0 (.step 17 3 (.step 18 0 (.step 19 0 (.step 20 3 (.step 21 0 (.step 22 0 (.step 23 3 .nil)))))))))))))))))))))))) mixed (mixF_all (by kernel_rfl)) h (by decide) j fun w h hS=>H q 7 d j fun a d=>Dd hS d j j (Rw fun _=>(B q 0 j j j j)) j fun a d=>H q 1 d j fun a d=>Dd hS d j j (Rw fun _=>(B q 0 j j j j)) j fun a d=>H q 1 d j fun a d=>Dd hS d j j (Rw fun _=>(B q 0 j j j j)) j fun a d=>Df j ?_))
  obtain ⟨m,c2,i⟩:=bd i;refine J cl_80 h d j j ((slices_Clone_api_Field_api_Field.ok k) c2 h.pass0 bx) j ?_;rintro a w _ dk _ ⟨rfl,ag,al,rfl,b1⟩ s h d
  refine De (h.sw [0] (by decide) j s) fun hS=>Df j ?_;obtain ⟨n,c3,i⟩:=bd i;refine J cl_75 h d j j ((slices_Clone_int_int.ok k) c3 h.pass0 (bz.m s)) j ?_
  rintro a w _ dl _ ⟨aw,a1,dy,rfl,rfl,cg⟩ y h d;refine De (h.sw [1] (by decide) j (s.t y)) fun hS=>Dl j ?_;obtain ⟨o,c4,i⟩:=bd i
  refine J cl_81 h d j j ((slices_Clone_api_Expr_api_Expr.ok k) c4 h.pass0 (b0.m (s.t y))) j ?_;rintro a w _ br _ ⟨a5,a9,dz,rfl,rfl,ch⟩ ad h d;refine Dn ?_
  obtain ⟨c,aq,i⟩:=bd i;obtain ⟨d1,cn,cy,ck⟩:=Rt (ac.m ((s.t y).t ad)) (Go aq).2
  obtain ⟨df,dv,ah,am,ai,an,rfl,d8,b2,b3⟩:=TRelation.inv.1 cy
  refine Dr d j j (I q (Ro (Go aq).1 (Go aq).2 ak 6) j j j) j fun a d=>H q 1 d j fun a d=>Dl j (s_storeS (xs:=l) (j:=(i525:Int)) (y':=(TRelation.mk c.Name c.Rows m c.Key c.Hide c.When)) q 3 h d j j ck cn (Rl (ac.m ((s.t y).t ad)) (Go aq).2) 2 j j j j j j j j fun a w d cu h=>?_)
  have be:RL br 6 ((setO l (i525:Int) (TRelation.mk c.Name c.Rows m c.Key c.Hide c.When)).map TRelation.d) (putAt p ((i525:Int).toNat * 6) [.string c.Name,i_ c.Rows,.slice ag m.length al,.slice ah c.Key.length am,i_ c.Hide,.slice ai c.When.length an]):=RL.set (ac.m ((s.t y).t ad)) (row_lt (Go aq).2) ((TRelation.inv (x:=(TRelation.mk c.Name c.Rows m c.Key c.Hide c.When))).2 ⟨ag,al,ah,am,ai,an,j,(b1.m (y.t ad)),b2,b3⟩) cu
  have d:=d.setV (t:=3) j (Ss (xs:=l) (j:=(i525:Int)) (y':=(TRelation.mk c.Name c.Rows m c.Key c.Hide c.When)))
  have d:=d.setV (t:=13) j (Ss (xs:=l) (j:=(i525:Int)) (y':=(TRelation.mk c.Name c.Rows m c.Key c.Hide c.When)))
  have d:=d.setV (t:=20) j (Ss (xs:=l) (j:=(i525:Int)) (y':=(TRelation.mk c.Name c.Rows m c.Key c.Hide c.When)))
  have d:=d.setV (t:=22) j (Ss (xs:=l) (j:=(i525:Int)) (y':=(TRelation.mk c.Name c.Rows m c.Key c.Hide c.When)))
  have d:=d.setV (t:=24) j (Ss (xs:=l) (j:=(i525:Int)) (y':=(TRelation.mk c.Name c.Rows m c.Key c.Hide c.When)));refine Dn ?_;obtain ⟨f,ar,i⟩:=bd i
  obtain ⟨d2,co,cz,cl⟩:=Rt be (Go ar).2;obtain ⟨ax,a2,dg,dw,ay,a3,rfl,b4,d9,b5⟩:=TRelation.inv.1 cz
  refine Dr d j j (I q (Ro (Go ar).1 (Go ar).2 ak 6) j j j) j fun a d=>H q 1 d j fun a d=>Dl j ?_
  obtain ⟨bs,ae,h,b6⟩:=(h.front 1).giveR (xs:=n.map di) (by simp) (cg.m ad)
  refine s_storeS (xs:=(setO l (i525:Int) (TRelation.mk c.Name c.Rows m c.Key c.Hide c.When))) (j:=(i525:Int)) (y':=(TRelation.mk f.Name f.Rows f.Cols n f.Hide f.When)) q 2 h d j j cl co (Rl (be.m ae) (Go ar).2) 3 j j j j j j j j fun a w d cv h=>?_
  have bf:RL bs 6 ((setO (setO l (i525:Int) (TRelation.mk c.Name c.Rows m c.Key c.Hide c.When)) (i525:Int) (TRelation.mk f.Name f.Rows f.Cols n f.Hide f.When)).map TRelation.d) (putAt (putAt p ((i525:Int).toNat * 6) [.string c.Name,i_ c.Rows,.slice ag m.length al,.slice ah c.Key.length am,i_ c.Hide,.slice ai c.When.length an]) ((i525:Int).toNat * 6) [.string f.Name,i_ f.Rows,.slice ax f.Cols.length a2,.slice aw n.length a1,i_ f.Hide,.slice ay f.When.length a3]):=RL.set (be.m ae) (row_lt (Go ar).2) ((TRelation.inv (x:=(TRelation.mk f.Name f.Rows f.Cols n f.Hide f.When))).2 ⟨ax,a2,aw,a1,ay,a3,j,(b4.m ae),b6,(b5.m ae)⟩) cv
  have d:=d.setV (t:=3) j (Ss (xs:=(setO l (i525:Int) (TRelation.mk c.Name c.Rows m c.Key c.Hide c.When))) (j:=(i525:Int)) (y':=(TRelation.mk f.Name f.Rows f.Cols n f.Hide f.When)))
  have d:=d.setV (t:=13) j (Ss (xs:=(setO l (i525:Int) (TRelation.mk c.Name c.Rows m c.Key c.Hide c.When))) (j:=(i525:Int)) (y':=(TRelation.mk f.Name f.Rows f.Cols n f.Hide f.When)))
  have d:=d.setV (t:=20) j (Ss (xs:=(setO l (i525:Int) (TRelation.mk c.Name c.Rows m c.Key c.Hide c.When))) (j:=(i525:Int)) (y':=(TRelation.mk f.Name f.Rows f.Cols n f.Hide f.When)))
  have d:=d.setV (t:=22) j (Ss (xs:=(setO l (i525:Int) (TRelation.mk c.Name c.Rows m c.Key c.Hide c.When))) (j:=(i525:Int)) (y':=(TRelation.mk f.Name f.Rows f.Cols n f.Hide f.When)))
  have d:=d.setV (t:=24) j (Ss (xs:=(setO l (i525:Int) (TRelation.mk c.Name c.Rows m c.Key c.Hide c.When))) (j:=(i525:Int)) (y':=(TRelation.mk f.Name f.Rows f.Cols n f.Hide f.When)))
  refine Dn ?_;obtain ⟨g,au,i⟩:=bd i;obtain ⟨d3,cp,c0,cm⟩:=Rt bf (Go au).2
  obtain ⟨a6,ba,a7,bb,dh,dx,rfl,b7,b8,ea⟩:=TRelation.inv.1 c0
  refine Dr d j j (I q (Ro (Go au).1 (Go au).2 ak 6) j j j) j fun a d=>H q 1 d j fun a d=>Dl j ?_
  obtain ⟨bl,ao,h,b9⟩:=(h.front 0).giveR (xs:=o.map TExpr.d) (by simp) (ch.m ae)
  refine s_storeS (xs:=(setO (setO l (i525:Int) (TRelation.mk c.Name c.Rows m c.Key c.Hide c.When)) (i525:Int) (TRelation.mk f.Name f.Rows f.Cols n f.Hide f.When))) (j:=(i525:Int)) (y':=(TRelation.mk g.Name g.Rows g.Cols g.Key g.Hide o)) q 1 h d j j cm cp (Rl (bf.m ao) (Go au).2) 5 j j j j j j j j fun a w d cw h=>?_
  have ci:RL bl 6 ((setO (setO (setO l (i525:Int) (TRelation.mk c.Name c.Rows m c.Key c.Hide c.When)) (i525:Int) (TRelation.mk f.Name f.Rows f.Cols n f.Hide f.When)) (i525:Int) (TRelation.mk g.Name g.Rows g.Cols g.Key g.Hide o)).map TRelation.d) (putAt (putAt (putAt p ((i525:Int).toNat * 6) [.string c.Name,i_ c.Rows,.slice ag m.length al,.slice ah c.Key.length am,i_ c.Hide,.slice ai c.When.length an]) ((i525:Int).toNat * 6) [.string f.Name,i_ f.Rows,.slice ax f.Cols.length a2,.slice aw n.length a1,i_ f.Hide,.slice ay f.When.length a3]) ((i525:Int).toNat * 6) [.string g.Name,i_ g.Rows,.slice a6 g.Cols.length ba,.slice a7 g.Key.length bb,i_ g.Hide,.slice a5 o.length a9]):=RL.set (bf.m ao) (row_lt (Go au).2) ((TRelation.inv (x:=(TRelation.mk g.Name g.Rows g.Cols g.Key g.Hide o))).2 ⟨a6,ba,a7,bb,a5,a9,j,(b7.m ao),(b8.m ao),b9⟩) cw
  have d:=d.setV (t:=3) j (Ss (xs:=(setO (setO l (i525:Int) (TRelation.mk c.Name c.Rows m c.Key c.Hide c.When)) (i525:Int) (TRelation.mk f.Name f.Rows f.Cols n f.Hide f.When))) (j:=(i525:Int)) (y':=(TRelation.mk g.Name g.Rows g.Cols g.Key g.Hide o)))
  have d:=d.setV (t:=13) j (Ss (xs:=(setO (setO l (i525:Int) (TRelation.mk c.Name c.Rows m c.Key c.Hide c.When)) (i525:Int) (TRelation.mk f.Name f.Rows f.Cols n f.Hide f.When))) (j:=(i525:Int)) (y':=(TRelation.mk g.Name g.Rows g.Cols g.Key g.Hide o)))
  have d:=d.setV (t:=20) j (Ss (xs:=(setO (setO l (i525:Int) (TRelation.mk c.Name c.Rows m c.Key c.Hide c.When)) (i525:Int) (TRelation.mk f.Name f.Rows f.Cols n f.Hide f.When))) (j:=(i525:Int)) (y':=(TRelation.mk g.Name g.Rows g.Cols g.Key g.Hide o)))
  have d:=d.setV (t:=22) j (Ss (xs:=(setO (setO l (i525:Int) (TRelation.mk c.Name c.Rows m c.Key c.Hide c.When)) (i525:Int) (TRelation.mk f.Name f.Rows f.Cols n f.Hide f.When))) (j:=(i525:Int)) (y':=(TRelation.mk g.Name g.Rows g.Cols g.Key g.Hide o)))
  have d:=d.setV (t:=24) j (Ss (xs:=(setO (setO l (i525:Int) (TRelation.mk c.Name c.Rows m c.Key c.Hide c.When)) (i525:Int) (TRelation.mk f.Name f.Rows f.Cols n f.Hide f.When))) (j:=(i525:Int)) (y':=(TRelation.mk g.Name g.Rows g.Cols g.Key g.Hide o)))
  refine Dn (Dz (xB (T (G (R q 2 d j fun a d=>E (T ?_))))));cases i;have d:=d.setI (t:=15) j (Wc bh cr)
  exact ⟨u.length,Nat.lt_succ_self _,i525 + 1,u,_,bl,(p_ ak),aa,(putAt (putAt (putAt p ((i525:Int).toNat * 6) [.string c.Name,i_ c.Rows,.slice ag m.length al,.slice ah c.Key.length am,i_ c.Hide,.slice ai c.When.length an]) ((i525:Int).toNat * 6) [.string f.Name,i_ f.Rows,.slice ax f.Cols.length a2,.slice aw n.length a1,i_ f.Hide,.slice ay f.When.length a3]) ((i525:Int).toNat * 6) [.string g.Name,i_ g.Rows,.slice a6 g.Cols.length ba,.slice a7 g.Key.length bb,i_ g.Hide,.slice a5 o.length a9]),j,bh,a4,ab,(((((bn.t s).t y).t ad).t ae).t ao),d.kp j,(h.dropN 1 j),ci⟩

theorem cl_9:Callable Tryz.prog 9:=⟨_,Tryz.func9,by kernel_rfl,by kernel_rfl⟩

def labels_Column.C (s:(Option Tschema_Catalog)→Int→Int→Option Int):Prop:=∀ {e f g r},s e f g=some r→∀ {c b d},Inv c b [] b [] c→(Pt b d 166 Tschema_Catalog.d e)→Calls Tryz.prog 9 #[.pointer d,i_ f,i_ g] c (Ret c b [] fun G' L' v=>L'=[]∧v=i_ r)

theorem labels_Column.ok (k:Nat):labels_Column.C (labels_Column k):=by
  intro az s ae r d af u ah f y
  unfold labels_Column at d
  refine Ci 37 Tryz.func9 j j j fun a c=>?_
  refine S (G (R q 1 c j fun a c=>E (T (S (G (R q 1 c j fun a c=>?_))))));obtain ⟨ag,ad,d⟩:=bd d
  refine J cl_32 f c j j ((schema_Catalog_Tables.ok k) ad f.pass0 y) j ?_;rintro a w _ g _ ⟨rfl,ai,an,rfl,x⟩ ax f c;refine R q 1 c j fun a c=>E (T (S (S ?_)))
  obtain ⟨p,d,aa⟩:=bd d;refine X c f (fun e L a' w'=>∃ m,g.le m∧Env a' 37 (sl e [0,1,2] [(31,.bool p)])∧Inv af u [] m L w') ?_ ?_;rotate_left
  · rintro a w ⟨m,aw,c,f⟩;have d:=aa;refine T (Cc (b:=p) c j (fun n=>?_) (fun n=>?_));rotate_left
    · replace d:=cf n d;cases d
    replace d:=ct n d;refine S (G (R q 1 c j fun a c=>E (T (V (Xr ?_)))));cases d;refine N (v:=_) c j ⟨_,_,_,j,f.nil,j,j⟩
  refine G (R q 3 c j fun a c=>?_);rcases Bo (decide (s < (0:Int))) with h | h
  · replace d:=ct h d;have c:=c.tr (t:=12) j h;refine R q 19 c j fun a c=>E (T ?_);cases d;exact ⟨g,rf,c.kp j,f⟩
  replace d:=cf h d;have c:=c.tr (t:=12) j h;refine R q 6 c j fun a c=>?_;rcases Bo (decide ((ag.length:Int)≤s)) with i | i
  · replace d:=ct i d;have c:=c.tr (t:=18) j i;refine R q 13 c j fun a c=>E (T ?_);cases d;exact ⟨g,rf,c.kp j,f⟩
  replace d:=cf i d;have c:=c.tr (t:=18) j i;refine R q 4 c j fun a c=>?_;rcases Bo (decide (ae < (0:Int))) with l | l
  · replace d:=ct l d;have c:=c.tr (t:=22) j l;refine R q 9 c j fun a c=>E (T ?_);cases d;exact ⟨g,rf,c.kp j,f⟩
  replace d:=cf l d;have c:=c.tr (t:=22) j l;refine R q 3 c j fun a c=>?_;obtain ⟨a0,o,d⟩:=bd d
  obtain ⟨am,ay,cs,ac,ab,z⟩:=Sa x (Go o).1 (Go o).2;obtain ⟨aj,ao,ak,ap,al,aq,rfl,ar,au,av⟩:=TRelation.inv.1 ab
  refine L f c j (I q ac j j j) j fun a c=>R q 1 c j fun a c=>L f c j (Fg q z 2 j j j j) j fun a c=>R q 3 c j fun a c=>E (T ?_)
  cases d;exact ⟨g,rf,c.kp j,f⟩

theorem cl_10:Callable Tryz.prog 10:=⟨_,Tryz.func10,by kernel_rfl,by kernel_rfl⟩

def labels_Exists.C (s:(Option Tschema_Catalog)→Int→Option Int):Prop:=∀ {e f r},s e f=some r→∀ {c b d},Inv c b [] b [] c→(Pt b d 166 Tschema_Catalog.d e)→Calls Tryz.prog 10 #[.pointer d,i_ f] c (Ret c b [] fun G' L' v=>L'=[]∧v=i_ r)

theorem labels_Exists.ok (k:Nat):labels_Exists.C (labels_Exists k):=by
  intro ae x r d y h z f o
  unfold labels_Exists at d
  refine Ci 18 Tryz.func10 j j j fun a c=>?_
  refine S (G (R q 1 c j fun a c=>E (T (S (S ?_)))));obtain ⟨m,d,p⟩:=bd d
  refine X c f (fun e L a' w'=>∃ i,h.le i∧Env a' 18 (sl e [0,1] [(13,.bool m)])∧Inv y h [] i L w') ?_ ?_;rotate_left
  · rintro a w ⟨i,ad,c,f⟩;have d:=p;refine T (Cc (b:=m) c j (fun l=>?_) (fun l=>?_));rotate_left
    · replace d:=cf l d;cases d
    replace d:=ct l d;refine S (G (R q 1 c j fun a c=>E (T (V (Xr ?_)))));cases d;refine N (v:=_) c j ⟨_,_,_,j,f.nil,j,j⟩
  refine G (R q 3 c j fun a c=>?_);rcases Bo (decide (x < (0:Int))) with g | g
  · replace d:=ct g d;have c:=c.tr (t:=7) j g;refine R q 6 c j fun a c=>E (T ?_);cases d;exact ⟨h,rf,c.kp j,f⟩
  replace d:=cf g d;have c:=c.tr (t:=7) j g;refine R q 2 c j fun a c=>?_;obtain ⟨af,u,d⟩:=bd d
  refine J cl_32 f c j j ((schema_Catalog_Tables.ok k) u f.pass0 o) j ?_;rintro a w _ n _ ⟨rfl,aa,ab,rfl,ac⟩ s f c;refine R q 3 c j fun a c=>E (T ?_);cases d
  exact ⟨n,s,c.kp j,f⟩

theorem cl_11:Callable Tryz.prog 11:=⟨_,Tryz.func11,by kernel_rfl,by kernel_rfl⟩

def law17_alive.C (s:Option Bool):Prop:=∀ {r},s=some r→∀ {b c},Inv b c [] c [] b→Calls Tryz.prog 11 #[] b (Ret b c [] fun G' L' v=>L'=[]∧v = .bool r)

theorem law17_alive.ok (k:Nat):law17_alive.C (law17_alive k):=by
  intro r b e d c
  cases b
  exact yes_ok Kf_0_ok j c

theorem cl_3:Callable Tryz.prog 3:=⟨_,Tryz.func3,by kernel_rfl,by kernel_rfl⟩

def law17_LabelsNil.C (s:TNode→TPlan→Int→Int→Option Bool):Prop:=∀ {f g h i r},s f g h i=some r→∀ {c b e d},Inv c b [] b [] c→(Rep b f.d e)→(Rep b g.d d)→Calls Tryz.prog 3 #[.agg ⟨e⟩,.agg ⟨d⟩,i_ h,i_ i] c (Ret c b [] fun G' L' v=>L'=[]∧v = .bool r)

theorem law17_LabelsNil.ok (k:Nat):law17_LabelsNil.C (law17_LabelsNil k):=by
  intro br bs bt bu r c be ah bn bm d a4 a2
  unfold law17_LabelsNil at c
  obtain ⟨aa,aq,af,au,rfl,a0,a1⟩:=TNode.inv.1 a4
  obtain ⟨ag,am,ab,an,ac,ao,ad,ap,ae,ar,rfl,av,aw,ax,ay,az⟩:=TPlan.inv.1 a2
  refine Ci 46 Tryz.func3 j j j fun a b=>?_
  
  refine S (G (s_box d b j j j j fun a w bi b d=>s_box d b j j j j fun a w bj b d=>R q 1 b j fun a b=>E (T (S (G (L d b j (B q 0 j j j j) j fun a b=>?_))))))
  obtain ⟨x,ba,c⟩:=bd c
  refine J cl_7 d b j j ((labels_Plan.ok k) ba d.pass0 Pn (Sn _ _ _ _ (Nat.zero_le _)) (TPlan.inv.2 ⟨ag,am,ab,an,ac,ao,ad,ap,ae,ar,j,av,aw,ax,ay,az⟩)) j ?_
  rintro a w _ al _ ⟨rfl,bo,rfl,a3⟩ z d b;obtain ⟨bh,bl,rfl,bp⟩:=TSheet.inv.1 a3
  refine A d b j z_32 j j fun a w bk b d=>W q 0 d b j j j j j j j j j j fun a w b d=>E (T (S ?_));obtain ⟨bc,c,a5⟩:=bd c
  refine X b d (fun e L a' w'=>∃ s,al.le s∧Env a' 46 [(8,.bool bc)]∧Inv be ah [] s [] w') ?_ ?_;rotate_left
  · rintro a w ⟨s,bq,b,d⟩;have c:=a5;refine T (V ?_);cases c;refine N (v:=_) b j ⟨_,_,_,j,d.nil,j,j⟩
  refine G (L d b j (B q 2 j j j j) j fun a b=>?_);obtain ⟨g,bb,c⟩:=bd c
  refine J cl_8 d b j j ((labels_Node.ok k) bb d.pass0 Pn (Sn _ _ _ _ (Nat.zero_le _)) (Sn _ _ _ _ (Nat.zero_le _)) (TNode.inv.2 ⟨aa,aq,af,au,j,(a0.m z),(a1.m z)⟩)) j ?_
  rintro a w _ p _ ⟨rfl,rfl⟩ f d b
  refine L d b j (Bd q j z_35 j j) j fun a b=>L d b j (f_eqs q se_35 [.num .i64 g.Value_ (0:Int),.num .i64 g.Raise (0:Int),.flg g.Can false] j j j) j fun a b=>R q 1 b j fun a b=>?_
  rcases Bo (decide (g.Value_=(0:Int)) && (decide (g.Raise=(0:Int)) && (g.Can == false))) with m | m;rotate_left
  · replace c:=cf m c;have b:=b.tr (t:=16) j m;refine R q 30 b j fun a b=>E (T ?_);cases c;exact ⟨p,f,b.kp j,(d.dropN 3 j)⟩
  replace c:=ct m c;have b:=b.tr (t:=16) j m;refine R q 1 b j fun a b=>L d b j (B q 0 j j j j) j fun a b=>R q 3 b j fun a b=>?_
  rcases Bo (decide (x.Rows=(0:Int))) with n | n;rotate_left
  · replace c:=cf n c;have b:=b.tr (t:=21) j n;refine R q 25 b j fun a b=>E (T ?_);cases c;exact ⟨p,f,b.kp j,(d.dropN 3 j)⟩
  replace c:=ct n c;have b:=b.tr (t:=21) j n;refine R q 1 b j fun a b=>L d b j (B q 0 j j j j) j fun a b=>R q 4 b j fun a b=>?_
  rcases Bo (decide ((x.Cols.length:Int)=(0:Int))) with o | o;rotate_left
  · replace c:=cf o c;have b:=b.tr (t:=27) j o;refine R q 19 b j fun a b=>E (T ?_);cases c;exact ⟨p,f,b.kp j,(d.dropN 3 j)⟩
  replace c:=ct o c;have b:=b.tr (t:=27) j o;refine R q 1 b j fun a b=>L d b j (B q 0 j j j j) j fun a b=>R q 3 b j fun a b=>?_
  rcases Bo (!x.Can) with h | h;rotate_left
  · replace c:=cf h c;have b:=b.tr (t:=32) j h;refine R q 14 b j fun a b=>E (T ?_);cases c;exact ⟨p,f,b.kp j,(d.dropN 3 j)⟩
  replace c:=ct h c;have b:=b.tr (t:=32) j h;refine R q 2 b j fun a b=>?_;obtain ⟨bf,a7,c⟩:=bd c
  refine J cl_9 d b j j ((labels_Column.ok k) a7 d.pass0 Pn) j ?_;rintro a w _ ai _ ⟨rfl,rfl⟩ u d b;refine R q 3 b j fun a b=>?_
  rcases Bo (decide (bf=(-1:Int))) with i | i;rotate_left
  · replace c:=cf i c;have b:=b.tr (t:=38) j i;refine R q 8 b j fun a b=>E (T ?_);cases c;exact ⟨ai,(f.t u),b.kp j,(d.dropN 3 j)⟩
  replace c:=ct i c;have b:=b.tr (t:=38) j i;refine R q 1 b j fun a b=>?_;obtain ⟨bg,a8,c⟩:=bd c
  refine J cl_10 d b j j ((labels_Exists.ok k) a8 d.pass0 Pn) j ?_;rintro a w _ aj _ ⟨rfl,rfl⟩ y d b;refine R q 3 b j fun a b=>?_
  rcases Bo (decide (bg=(-1:Int))) with l | l;rotate_left
  · replace c:=cf l c;have b:=b.tr (t:=43) j l;refine R q 3 b j fun a b=>E (T ?_);cases c;exact ⟨aj,((f.t u).t y),b.kp j,(d.dropN 3 j)⟩
  replace c:=ct l c;have b:=b.tr (t:=43) j l;obtain ⟨bv,a9,c⟩:=bd c;refine J cl_11 d b j j ((law17_alive.ok kAlive) a9 d.pass0 ) j ?_
  rintro a w _ ak _ ⟨rfl,rfl⟩ a6 d b;refine R q 2 b j fun a b=>E (T ?_);cases c;exact ⟨ak,(((f.t u).t y).t a6),b.kp j,(d.dropN 3 j)⟩

theorem cl_53:Callable Tryz.prog 53:=⟨_,Tryz.func53,by kernel_rfl,by kernel_rfl⟩

def change_relation.C (s:(Option Tstore_DB)→Int→Option (TRelation × Int)):Prop:=∀ {f g r},s f g=some r→∀ {c b d},Inv c b [] b [] c→(Pt b d 195 Tstore_DB.d f)→Calls Tryz.prog 53 #[.pointer d,i_ g] c (Ret c b [] fun G' L' v=>L'=[]∧∃ e,v = .tuple ⟨[.agg ⟨e⟩,i_ r.2]⟩∧Rep G' r.1.d e)

theorem change_relation.ok (k:Nat):change_relation.C (change_relation k):=by
  intro h n r e o l i d g
  unfold change_relation at e
  refine Ci 26 Tryz.func53 j j j fun a c=>?_
  
  refine S (G (A d c j z_75 j j fun a w m c d=>R q 1 c j fun a c=>E (T (S (S (G (R q 1 c j fun a c=>L d c j (f_pnil up_99 g j j) j fun a c=>E (T (Cc (b:=h.isNone) c j (fun f=>?_) (fun f=>?_))))))))))
  rotate_left
  · replace e:=cf f e;cases e
  replace e:=ct f e
  refine S (G (L d c j (Bd q j z_75 j j) j fun a c=>W q 0 d c j j j j j j j j j j fun a w c d=>R q 1 c j fun a c=>E (T (V (Xr ?_)))))
  cases e
  refine U q c d (.cell 0 j j j j (.tmp j .nil)) j ⟨_,_,_,j,d.nil,j,_,j,((TRelation.inv (x:=(TRelation.mk (⟨#[]⟩:ByteArray) (0:Int) [] [] (0:Int) []))).2 ⟨none,0,none,0,none,0,j,(Sn _ _ _ _ (Nat.zero_le _)),(Sn _ _ _ _ (Nat.zero_le _)),(Sn _ _ _ _ (Nat.zero_le _))⟩)⟩

theorem cl_23:Callable Tryz.prog 23:=⟨_,Tryz.func23,by kernel_rfl,by kernel_rfl⟩

def change_Update.C (s:(Option Tstore_DB)→(List TBound)→Int→(List Int)→(List TNode)→(List TNode)→Option (Int × Int)):Prop:=∀ {x d y e f g r},s x d y e f g=some r→∀ {c b h l t m u n o i p},Inv c b [] b [] c→(Pt b h 195 Tstore_DB.d x)→(Sl b l t 4 (d.map TBound.d))→(Sl b m u 1 (e.map di))→(Sl b n o 5 (f.map TNode.d))→(Sl b i p 5 (g.map TNode.d))→Calls Tryz.prog 23 #[.pointer h,.slice l d.length t,i_ y,.slice m e.length u,.slice n f.length o,.slice i g.length p] c (Ret c b [] fun G' L' v=>L'=[]∧v = .tuple ⟨[i_ r.1,i_ r.2]⟩)

theorem change_Update.ok (k:Nat):change_Update.C (change_Update k):=by
  intro ax ay az a0 a1 a2 r e a3 y m o aj u al x af n ag d g au av an ao
  unfold change_Update at e
  refine Ci 61 Tryz.func23 j j j fun a c=>?_
  
  refine S (G (s_box d c j j j j fun a w aa c d=>s_box d c j j j j fun a w ab c d=>s_box d c j j j j fun a w ac c d=>s_box d c j j j j fun a w ad c d=>R q 2 c j fun a c=>E (T (S (G (L d c j (B q 3 j j j j) j fun a c=>R q 1 c j fun a c=>?_))))))
  obtain ⟨l,i,e⟩:=bd e;refine J cl_53 d c j j ((change_relation.ok k) i d.pass0 g) j ?_;rintro a w _ z _ ⟨rfl,am,rfl,h⟩ aw d c
  obtain ⟨p,ah,s,ai,t,ak,rfl,ap,aq,ar⟩:=TRelation.inv.1 h
  refine R q 3 c j fun a c=>A d c j z_75 j j fun a w ae c d=>W q 0 d c j j j j j j j j j j fun a w c d=>R q 1 c j fun a c=>E (T (S (S (G (R q 2 c j fun a c=>E (T (Cc (b:=!decide (l.2=(0:Int))) c j (fun f=>?_) (fun f=>?_))))))))
  rotate_left
  · replace e:=cf f e;cases e
  replace e:=ct f e;refine S (G (R q 3 c j fun a c=>E (T (V (Xr ?_)))));cases e;refine N (v:=_) c j ⟨_,_,_,j,d.nil,j,j⟩

theorem cl_24:Callable Tryz.prog 24:=⟨_,Tryz.func24,by kernel_rfl,by kernel_rfl⟩

def change_Delete.C (s:(Option Tstore_DB)→(List TBound)→Int→(List TNode)→Option (Int × Int)):Prop:=∀ {m d n e r},s m d n e=some r→∀ {c b f g i h l},Inv c b [] b [] c→(Pt b f 195 Tstore_DB.d m)→(Sl b g i 4 (d.map TBound.d))→(Sl b h l 5 (e.map TNode.d))→Calls Tryz.prog 24 #[.pointer f,.slice g d.length i,i_ n,.slice h e.length l] c (Ret c b [] fun G' L' v=>L'=[]∧v = .tuple ⟨[i_ r.1,i_ r.2]⟩)

theorem change_Delete.ok (k:Nat):change_Delete.C (change_Delete k):=by
  intro al am an ao r d ap u m p ac t ad e g ai aj
  unfold change_Delete at d
  refine Ci 45 Tryz.func24 j j j fun a c=>?_
  refine S (G (R q 2 c j fun a c=>E (T (S (S (G (R q 2 c j fun a c=>?_)))))));obtain ⟨l,i,d⟩:=bd d
  refine J cl_53 e c j j ((change_relation.ok k) i e.pass0 g) j ?_;rintro a w _ x _ ⟨rfl,ae,rfl,h⟩ ak e c
  obtain ⟨n,z,o,aa,s,ab,rfl,af,ag,ah⟩:=TRelation.inv.1 h
  refine R q 3 c j fun a c=>A e c j z_75 j j fun a w y c e=>W q 0 e c j j j j j j j j j j fun a w c e=>R q 1 c j fun a c=>E (T (S (G (R q 2 c j fun a c=>E (T (Cc (b:=!decide (l.2=(0:Int))) c j (fun f=>?_) (fun f=>?_)))))))
  rotate_left
  · replace d:=cf f d;cases d
  replace d:=ct f d;refine S (G (R q 3 c j fun a c=>E (T (V (Xr ?_)))));cases d;refine N (v:=_) c j ⟨_,_,_,j,e.nil,j,j⟩

theorem cl_25:Callable Tryz.prog 25:=⟨_,Tryz.func25,by kernel_rfl,by kernel_rfl⟩

def change_Insert.C (s:(Option Tstore_DB)→(List TBound)→Int→(List TNode)→Option Int):Prop:=∀ {m d n e r},s m d n e=some r→∀ {c b f g i h l},Inv c b [] b [] c→(Pt b f 195 Tstore_DB.d m)→(Sl b g i 4 (d.map TBound.d))→(Sl b h l 5 (e.map TNode.d))→Calls Tryz.prog 25 #[.pointer f,.slice g d.length i,i_ n,.slice h e.length l] c (Ret c b [] fun G' L' v=>L'=[]∧v=i_ r)

theorem change_Insert.ok (k:Nat):change_Insert.C (change_Insert k):=by
  intro al am an ao r d ap u m p ac t ad e g ai aj
  unfold change_Insert at d
  refine Ci 37 Tryz.func25 j j j fun a c=>?_
  refine S (G (R q 1 c j fun a c=>E (T (S (S (G (R q 2 c j fun a c=>?_)))))));obtain ⟨l,i,d⟩:=bd d
  refine J cl_53 e c j j ((change_relation.ok k) i e.pass0 g) j ?_;rintro a w _ x _ ⟨rfl,ae,rfl,h⟩ ak e c
  obtain ⟨n,z,o,aa,s,ab,rfl,af,ag,ah⟩:=TRelation.inv.1 h
  refine R q 3 c j fun a c=>A e c j z_75 j j fun a w y c e=>W q 0 e c j j j j j j j j j j fun a w c e=>R q 1 c j fun a c=>E (T (S (G (R q 2 c j fun a c=>E (T (Cc (b:=!decide (l.2=(0:Int))) c j (fun f=>?_) (fun f=>?_)))))))
  rotate_left
  · replace d:=cf f d;cases d
  replace d:=ct f d;refine S (G (R q 2 c j fun a c=>E (T (V (Xr ?_)))));cases d;refine N (v:=_) c j ⟨_,_,_,j,e.nil,j,j⟩

theorem cl_26:Callable Tryz.prog 26:=⟨_,Tryz.func26,by kernel_rfl,by kernel_rfl⟩

def change_InsertRows.C (s:(Option Tstore_DB)→(List TBound)→Int→TPlan→Option Int):Prop:=∀ {i d l m r},s i d l m=some r→∀ {c b e f g h},Inv c b [] b [] c→(Pt b e 195 Tstore_DB.d i)→(Sl b f g 4 (d.map TBound.d))→(Rep b m.d h)→Calls Tryz.prog 26 #[.pointer e,.slice f d.length g,i_ l,.agg ⟨h⟩] c (Ret c b [] fun G' L' v=>L'=[]∧v=i_ r)

theorem change_InsertRows.ok (k:Nat):change_InsertRows.C (change_InsertRows k):=by
  intro a2 a3 a4 a5 r e a6 ab n t aj ao d g az h
  unfold change_InsertRows at e
  obtain ⟨z,an,aa,af,o,ag,p,ah,s,ai,rfl,a0,aq,ar,au,av⟩:=TPlan.inv.1 h
  refine Ci 36 Tryz.func26 j j j fun a c=>?_
  refine S (G (s_box d c j j j j fun a w ad c d=>R q 1 c j fun a c=>E (T (S (S (G (R q 2 c j fun a c=>?_)))))));obtain ⟨m,l,e⟩:=bd e
  refine J cl_53 d c j j ((change_relation.ok k) l d.pass0 g) j ?_;rintro a w _ ac _ ⟨rfl,ap,rfl,i⟩ a1 d c
  obtain ⟨u,ak,x,al,y,am,rfl,aw,ax,ay⟩:=TRelation.inv.1 i
  refine R q 3 c j fun a c=>A d c j z_75 j j fun a w ae c d=>W q 0 d c j j j j j j j j j j fun a w c d=>R q 1 c j fun a c=>E (T (S (G (R q 2 c j fun a c=>E (T (Cc (b:=!decide (m.2=(0:Int))) c j (fun f=>?_) (fun f=>?_)))))))
  rotate_left
  · replace e:=cf f e;cases e
  replace e:=ct f e;refine S (G (R q 2 c j fun a c=>E (T (V (Xr ?_)))));cases e;refine N (v:=_) c j ⟨_,_,_,j,d.nil,j,j⟩

theorem cl_27:Callable Tryz.prog 27:=⟨_,Tryz.func27,by kernel_rfl,by kernel_rfl⟩

def ref09_One.C (s:Int→Int→Option Int):Prop:=∀ {d e r},s d e=some r→∀ {b c },Inv b c [] c [] b→Calls Tryz.prog 27 #[i_ d,i_ e] b (Ret b c [] fun G' L' v=>L'=[]∧v=i_ r)

theorem ref09_One.ok (k:Nat):ref09_One.C (ref09_One k):=by
  intro p s r d u h  f
  unfold ref09_One at d
  refine Ci 16 Tryz.func27 j j j fun a c=>?_
  refine S (G (R q 1 c j fun a c=>E (T (S (S (G (R q 2 c j fun a c=>E (T (Cc (b:=decide (p=(0:Int))) c j (fun m=>?_) (fun m=>?_))))))))))
  · replace d:=ct m d;refine S (G (R q 2 c j fun a c=>E (T (V (Xr ?_)))));cases d;refine N (v:=_) c j ⟨_,_,_,j,f.nil,j,j⟩
  replace d:=cf m d;refine K (T (S (S ?_)));obtain ⟨n,d,o⟩:=bd d;refine X c f (fun e L a' w'=>∃ i,h.le i∧Env a' 16 (sl e [0] [(14,.bool n)])∧Inv u h [] i L w') ?_ ?_
  · refine G (R q 3 c j fun a c=>?_);rcases Bo (decide (s=(0:Int))) with g | g
    · replace d:=ct g d;have c:=c.tr (t:=10) j g;refine R q 4 c j fun a c=>E (T ?_);cases d;exact ⟨h,rf,c.kp j,f⟩
    replace d:=cf g d;have c:=c.tr (t:=10) j g;refine R q 4 c j fun a c=>E (T ?_);cases d;exact ⟨h,rf,c.kp j,f⟩
  rintro a w ⟨i,x,c,f⟩;have d:=o;refine T (Cc (b:=n) c j (fun l=>?_) (fun l=>?_))
  · replace d:=ct l d;refine S (G (R q 2 c j fun a c=>E (T (V (Xr ?_)))));cases d;refine N (v:=_) c j ⟨_,_,_,j,f.nil,j,j⟩
  replace d:=cf l d;refine K (T (S (G (R q 1 c j fun a c=>E (T (V ?_))))));cases d;refine N (v:=_) c j ⟨_,_,_,j,f.nil,j,j⟩

theorem cl_28:Callable Tryz.prog 28:=⟨_,Tryz.func28,by kernel_rfl,by kernel_rfl⟩

def law14_alive.C (s:Option Bool):Prop:=∀ {r},s=some r→∀ {b c},Inv b c [] c [] b→Calls Tryz.prog 28 #[] b (Ret b c [] fun G' L' v=>L'=[]∧v = .bool r)

theorem law14_alive.ok (k:Nat):law14_alive.C (law14_alive k):=by
  intro r b e d c
  cases b
  exact yes_ok Kj_0_ok j c

theorem cl_6:Callable Tryz.prog 6:=⟨_,Tryz.func6,by kernel_rfl,by kernel_rfl⟩

def law14_ChangeNil.C (s:Int→(List TNode)→TPlan→Option Bool):Prop:=∀ {h d i r},s h d i=some r→∀ {c b e f g},Inv c b [] b [] c→(Sl b e f 5 (d.map TNode.d))→(Rep b i.d g)→Calls Tryz.prog 6 #[i_ h,.slice e d.length f,.agg ⟨g⟩] c (Ret c b [] fun G' L' v=>L'=[]∧v = .bool r)

theorem law14_ChangeNil.ok (k:Nat):law14_ChangeNil.C (law14_ChangeNil k):=by
  intro bj bk bl r c a8 ah bc bg bh d y ay
  unfold law14_ChangeNil at c
  obtain ⟨af,ap,ag,aq,ac,am,ad,an,ae,ao,rfl,aw,ax,ar,au,av⟩:=TPlan.inv.1 ay
  refine Ci 54 Tryz.func6 j j j fun a b=>?_
  refine S (G (s_box d b j j j j fun a w bf b d=>R q 1 b j fun a b=>E (T (S (G (R q 2 b j fun a b=>?_))))));obtain ⟨aa,a1,c⟩:=bd c
  refine J cl_23 d b j j ((change_Update.ok k) a1 d.pass0 Pn (Sn _ _ _ _ (Nat.zero_le _)) (Sn _ _ _ _ (Nat.zero_le _)) y (Sn _ _ _ _ (Nat.zero_le _))) j ?_
  rintro a w _ be _ ⟨rfl,rfl⟩ g d b;refine R q 5 b j fun a b=>E (T (S (G (R q 2 b j fun a b=>?_))));obtain ⟨ab,a2,c⟩:=bd c
  refine J cl_24 d b j j ((change_Delete.ok k) a2 d.pass0 Pn (Sn _ _ _ _ (Nat.zero_le _)) (y.m g)) j ?_;rintro a w _ ai _ ⟨rfl,rfl⟩ h d b
  refine R q 5 b j fun a b=>E (T (S ?_));obtain ⟨a7,c,az⟩:=bd c;refine X b d (fun e L a' w'=>∃ x,ai.le x∧Env a' 54 [(6,.bool a7)]∧Inv a8 ah [] x [] w') ?_ ?_
  rotate_left
  · rintro a w ⟨x,bi,b,d⟩;have c:=az;refine T (V ?_);cases c;refine N (v:=_) b j ⟨_,_,_,j,d.nil,j,j⟩
  refine G (R q 2 b j fun a b=>?_);obtain ⟨a9,a3,c⟩:=bd c
  refine J cl_25 d b j j ((change_Insert.ok k) a3 d.pass0 Pn (Sn _ _ _ _ (Nat.zero_le _)) (y.m (g.t h))) j ?_;rintro a w _ aj _ ⟨rfl,rfl⟩ f d b
  refine R q 2 b j fun a b=>?_;rcases Bo (decide (a9=(1:Int))) with l | l;rotate_left
  · replace c:=cf l c;have b:=b.tr (t:=27) j l;refine R q 27 b j fun a b=>E (T ?_);cases c;exact ⟨aj,f,b.kp j,(d.dropN 1 j)⟩
  replace c:=ct l c;have b:=b.tr (t:=27) j l;refine R q 1 b j fun a b=>L d b j (B q 0 j j j j) j fun a b=>?_;obtain ⟨ba,a4,c⟩:=bd c
  refine J cl_26 d b j j ((change_InsertRows.ok k) a4 d.pass0 Pn (Sn _ _ _ _ (Nat.zero_le _)) (TPlan.inv.2 ⟨af,ap,ag,aq,ac,am,ad,an,ae,ao,j,(aw.m ((g.t h).t f)),(ax.m ((g.t h).t f)),(ar.m ((g.t h).t f)),(au.m ((g.t h).t f)),(av.m ((g.t h).t f))⟩)) j ?_
  rintro a w _ u _ ⟨rfl,rfl⟩ i d b;refine R q 3 b j fun a b=>?_;rcases Bo (decide (ba=(1:Int))) with m | m;rotate_left
  · replace c:=cf m c;have b:=b.tr (t:=33) j m;refine R q 21 b j fun a b=>E (T ?_);cases c;exact ⟨u,(f.t i),b.kp j,(d.dropN 1 j)⟩
  replace c:=ct m c;have b:=b.tr (t:=33) j m;refine R q 6 b j fun a b=>?_;rcases Bo (decide ((w64 (aa.1 + ab.1))=(0:Int))) with n | n;rotate_left
  · replace c:=cf n c;have b:=b.tr (t:=39) j n;refine R q 15 b j fun a b=>E (T ?_);cases c;exact ⟨u,(f.t i),b.kp j,(d.dropN 1 j)⟩
  replace c:=ct n c;have b:=b.tr (t:=39) j n;refine R q 4 b j fun a b=>?_;rcases Bo (decide (aa.2=(1:Int))) with o | o;rotate_left
  · replace c:=cf o c;have b:=b.tr (t:=43) j o;refine R q 11 b j fun a b=>E (T ?_);cases c;exact ⟨u,(f.t i),b.kp j,(d.dropN 1 j)⟩
  replace c:=ct o c;have b:=b.tr (t:=43) j o;refine R q 4 b j fun a b=>?_;rcases Bo (decide (ab.2=(1:Int))) with p | p;rotate_left
  · replace c:=cf p c;have b:=b.tr (t:=47) j p;refine R q 7 b j fun a b=>E (T ?_);cases c;exact ⟨u,(f.t i),b.kp j,(d.dropN 1 j)⟩
  replace c:=ct p c;have b:=b.tr (t:=47) j p;obtain ⟨bb,a5,c⟩:=bd c;refine J cl_27 d b j j ((ref09_One.ok k) a5 d.pass0 ) j ?_;rintro a w _ ak _ ⟨rfl,rfl⟩ z d b
  refine R q 3 b j fun a b=>?_;rcases Bo (decide (bb=(1:Int))) with s | s;rotate_left
  · replace c:=cf s c;have b:=b.tr (t:=51) j s;refine R q 3 b j fun a b=>E (T ?_);cases c;exact ⟨ak,((f.t i).t z),b.kp j,(d.dropN 1 j)⟩
  replace c:=ct s c;have b:=b.tr (t:=51) j s;obtain ⟨bm,a6,c⟩:=bd c;refine J cl_28 d b j j ((law14_alive.ok kAlive) a6 d.pass0 ) j ?_;rintro a w _ al _ ⟨rfl,rfl⟩ a0 d b
  refine R q 2 b j fun a b=>E (T ?_);cases c;exact ⟨al,(((f.t i).t z).t a0),b.kp j,(d.dropN 1 j)⟩
end Go.Proofs.YtlokemkpgnngjaaGreatDoor
