/- The contracts: what the machine does at a call is what the plain function says. Written by mk.py. -/
import Derived.Test.YtliaopbgkcdibaaGreatCgP3
import Derived.Test.YtliaopbgkcdibaaGreatCgP5
set_option linter.unusedVariables false
set_option linter.unusedSimpArgs false
set_option maxRecDepth 100000
namespace Go.Proofs.YtliaopbgkcdibaaGreat
open Go.RowKit
theorem schema_New.ok (k:Nat):schema_New.C (schema_New k):=by
  intro o r f az am dm d cn
  unfold schema_New at f
  obtain ⟨c4,dj,c7,dk,c8,dl,c5,dg,c6,dh,rfl,b6,cg,bg,b4,b5⟩:=TSchema.inv.1 cn
  refine Ci 106 Tryz.func6 j j j fun a c=>?_
  
  refine S (G (s_box d c j j j j fun a w dd c d=>R q 3 c j fun a c=>E (T (S (G (R q 1 c j fun a c=>L d c j (B q 0 j j j j) j fun a c=>R q 1 c j fun a c=>L d c j (B q 0 j j j j) j fun a c=>?_))))))
  obtain ⟨a0,c0,f⟩:=bd f;refine J cl_16 d c j j ((lattice_New.ok k) c0 d.pass0 b6 cg) j ?_;rintro a w _ ab _ ⟨rfl,al,rfl,ar⟩ ba d c
  refine R q 5 c j fun a c=>E (T (S (S (G (R q 2 c j fun a c=>E (T (Cc (b:=!decide (a0.2=(0:Int))) c j (fun a9=>?_) (fun a9=>?_))))))))
  · replace f:=ct a9 f;refine S (G (R q 4 c j fun a c=>E (T (V (Xr ?_)))));cases f;refine N (v:=_) c j ⟨_,_,_,j,d.nil,j,none,j,Pn⟩
  replace f:=cf a9 f;refine K (T (S (G (R q 1 c j fun a c=>s_makeMap d c j j fun a w y c d=>?_))))
  have ck:RM ab false D.str di ([]:List (ByteArray × Int)) (#[]:Array MapEntry).toList:=RM.nil
  refine R q 1 c j fun a c=>L d c j (B q 1 j j j j) j fun a c=>L d c j (Bd q j z_58 j j) j fun a c=>s_box d c j j j j fun a w ac c d=>R q 1 c j fun a c=>E (T (S (S ?_)))
  obtain ⟨bk,f,cr⟩:=bd f;refine X c d (fun e L a' w'=>∃ u,ab.le u∧Env a' 106 (sl e [1,7] [(49,.bool bk)])∧Inv az am [] u L w') ?_ ?_
  ·
    refine G (R q 1 c j fun a c=>L d c j (B q 2 j j j j) j fun a c=>R q 2 c j fun a c=>L d c j (B q 2 j j j j) j fun a c=>R q 2 c j fun a c=>L d c j (B q 2 j j j j) j fun a c=>R q 1 c j fun a c=>L d c j (f_max3 j j j) j fun a c=>R q 2 c j fun a c=>?_)
    rcases Bo (decide ((20:Int) < (max (max (o.Tables.length:Int) (o.Channels.length:Int)) (o.Principals.length:Int)))) with ae | ae
    · replace f:=ct ae f;have c:=c.tr (t:=40) j ae;refine R q 9 c j fun a c=>E (T ?_);cases f;exact ⟨ab,rf,c.kp j,d⟩
    replace f:=cf ae f;have c:=c.tr (t:=40) j ae;refine R q 1 c j fun a c=>L d c j (B q 2 j j j j) j fun a c=>R q 3 c j fun a c=>?_
    rcases Bo (decide (o.Limit < (0:Int))) with af | af
    · replace f:=ct af f;have c:=c.tr (t:=45) j af;refine R q 4 c j fun a c=>E (T ?_);cases f;exact ⟨ab,rf,c.kp j,d⟩
    replace f:=cf af f;have c:=c.tr (t:=45) j af;refine R q 1 c j fun a c=>L d c j (B q 2 j j j j) j fun a c=>R q 2 c j fun a c=>E (T ?_)
    cases f;exact ⟨ab,rf,c.kp j,d⟩
  rintro a w ⟨u,h,c,d⟩;have f:=cr;refine T (Cc (b:=bk) c j (fun a8=>?_) (fun a8=>?_))
  · replace f:=ct a8 f;refine S (G (R q 3 c j fun a c=>E (T (V (Xr ?_)))));cases f;refine N (v:=_) c j ⟨_,_,_,j,d.nil,j,none,j,Pn⟩
  replace f:=cf a8 f;refine K (T (S (S (G (R q 3 c j fun a c=>L d c j (B q 0 j j j j) j fun a c=>R q 1 c j fun a c=>E (T ?_))))))
  obtain ⟨z,f,cu⟩:=bd f
  refine X c d (fun e L a' w'=>∃ m,u.le m∧Env a' 106 (sl e [1,7] [])∧Inv az am [] m [.blk ac [.pointer al,.slice none 0 0,.map (some y),.slice none 0 0,.slice none 0 0,i_ z] 58,nt L 1,nt L 2] w') ?_ ?_
  · refine Cc (b:=decide (o.Limit=(0:Int))) c j (fun a7=>?_) (fun a7=>?_);rotate_left
    · replace f:=cf a7 f;refine K (T ?_);cases f;exact ⟨u,rf,c.kp j,d⟩
    replace f:=ct a7 f;refine G (R q 3 c j fun a c=>W q 0 d c j j j j j j j j j j fun a w c d=>E (T ?_));cases f;exact ⟨u,rf,c.kp j,d⟩
  rintro a w ⟨m,i,c,d⟩;have f:=cu
  refine T (S (S (G (R q 1 c j fun a c=>L d c j (B q 2 j j j j) j fun a c=>R q 2 c j fun a c=>E (T ?_)))));have d:=d.nilrow 51 6
  have cm:RL m 6 (([]:List TRelation).map TRelation.d) []:=Rn;obtain ⟨bl,n,bh⟩:=bd f
  refine X c d (fun e L a' w'=>∃ g aa ak ao a2 a3 bf,bl = .go g∧m.le aa∧Env a' 106 (sl e [1,7] [])∧Inv az am [] aa [.row (.slice ak g.1.length ao) 51 6 g.1.length a2,.blk ac [.pointer al,.slice ak g.1.length ao,.map (some y),.slice none 0 0,.slice none 0 0,i_ z] 58,.map y a3 bf,nt L 3] w'∧RL aa 6 (g.1.map TRelation.d) a2∧RM aa false D.str di g.2 a3.toList) ?_ ?_
  rotate_left
  · rintro a w ⟨g,aa,ak,ao,a2,a3,bf,rfl,ag,c,d,co,cj⟩;have f:=Lg bh
    refine T (S (G (R q 1 c j fun a c=>E (T (S (S (G (R q 3 c j fun a c=>L d c j (B q 3 j j j j) j fun a c=>?_))))))))
    have d:=d.pick [1,0,2,3] (by decide) j;obtain ⟨bc,cz,f⟩:=bd f
    refine M 1 cl_18 d c j j (fun ad=>(schema_Catalog_named.ok k) cz ad (ar.m ((h.t i).t ag)) (b4.m (((ba.t h).t i).t ag))) j ?_
    rintro a w _ c9 _ ⟨bm,bu,rfl,rfl,b7⟩ ah d c
    refine R q 6 c j fun a c=>W q 0 d c j j j j j j j j j j fun a w c d=>R q 2 c j fun a c=>E (T (S (G (R q 2 c j fun a c=>E (T (Cc (b:=!decide (bc.2.2.1=(0:Int))) c j (fun a5=>?_) (fun a5=>?_)))))))
    · replace f:=ct a5 f;refine S (G (R q 5 c j fun a c=>E (T (V (Xr ?_)))));cases f;refine N (v:=_) c j ⟨_,_,_,j,d.nil,j,none,j,Pn⟩
    replace f:=cf a5 f;refine K (T (S (S (G (R q 3 c j fun a c=>L d c j (B q 3 j j j j) j fun a c=>?_)))));obtain ⟨be,c1,f⟩:=bd f
    refine M 1 cl_18 d c j j (fun ad=>(schema_Catalog_named.ok k) c1 ad (ar.m (((h.t i).t ag).t ah)) (b5.m ((((ba.t h).t i).t ag).t ah))) j ?_
    rintro a w _ da _ ⟨bn,bv,rfl,rfl,b8⟩ aw d c
    refine R q 6 c j fun a c=>W q 0 d c j j j j j j j j j j fun a w c d=>R q 2 c j fun a c=>E (T (S (G (R q 2 c j fun a c=>E (T (Cc (b:=!decide (be.2.2.1=(0:Int))) c j (fun a4=>?_) (fun a4=>?_)))))))
    · replace f:=ct a4 f;refine S (G (R q 5 c j fun a c=>E (T (V (Xr ?_)))));cases f;refine N (v:=_) c j ⟨_,_,_,j,d.nil,j,none,j,Pn⟩
    replace f:=cf a4 f;refine K (T (S (G (R q 4 c j fun a c=>E (T ?_)))))
    obtain ⟨db,ax,d,b9⟩:=(d.front 1).giveR (xs:=g.1.map TRelation.d) (by simp) (co.m (ah.t aw))
    obtain ⟨dc,ay,d,ca⟩:=(d.front 1).giveM (cj.m ((ah.t aw).t ax));obtain ⟨bs,ai,d,ch⟩:=(d.front 0).giveB
    have cb:Pt bs (p_ ac) 58 Tschema_Catalog.d (some (Tschema_Catalog.mk a0.1 g.1 g.2 bc.1 be.1 z)):=Pm ((Tschema_Catalog.inv (x:=(Tschema_Catalog.mk a0.1 g.1 g.2 bc.1 be.1 z))).2 ⟨al,ak,ao,(some y),bm,bu,bn,bv,j,(ar.m (((((((h.t i).t ag).t ah).t aw).t ax).t ay).t ai)),(b9.m (ay.t ai)),(ca.m ai),(b7.m (((aw.t ax).t ay).t ai)),(b8.m ((ax.t ay).t ai))⟩) ch
    refine V ?_;cases f;refine N (v:=_) c j ⟨_,_,_,j,d.nil,j,(p_ ac),j,cb⟩
  
  refine O (Q c d (fun e L n' a' w'=>∃ i341 l p s aj an ap aq a1,n'=List.length l∧i341≤o.Tables.length∧o.Tables.drop i341=l∧forL (schema_New.b0 k a0 z) i341 l p=some bl∧m.le s∧Env a' 106 (sl e [1,7,59,60] [(61,i_ (i341:Int))])∧Inv az am [] s [.row (.slice aj p.1.length an) 51 6 p.1.length ap,.blk ac [.pointer al,.slice aj p.1.length an,.map (some y),.slice none 0 0,.slice none 0 0,i_ z] 58,.map y aq a1,nt L 3] w'∧RL s 6 (p.1.map TRelation.d) ap∧RM s false D.str di p.2 aq.toList) _ ⟨0,_,_,m,none,0,[],#[],0,j,Nat.zero_le _,j,n,rf,c.kp j,d,cm,(ck.m (h.t i))⟩ ?_)
  rintro dn a w ⟨i341,l,p,s,aj,an,ap,aq,a1,rfl,cx,au,n,av,c,d,bj,bi⟩;rcases l with _ | ⟨dr,l⟩
  · obtain rfl:=Fn n;have bb:=Do au cx;refine S (G (R q 1 c j fun a c=>E (T (S ?_))));have c:=c.tr (t:=62) j (decide_eq_false (by omega))
    refine Fa c j (Ex (Xe (Xe (Xh (T (⟨_,s,aj,an,ap,aq,a1,j,av,c.kp j,d,bj,bi⟩))))))
  obtain ⟨dq,f,n⟩:=Fs n;obtain ⟨cy,au,bb⟩:=Dc au;unfold schema_New.b0 at f;refine S (G (R q 1 c j fun a c=>E (T (S ?_))))
  have c:=c.tr (t:=62) j (decide_eq_true (by omega));refine Tr c j (K (T (S (O (S (G (R q 1 c j fun a c=>?_)))))))
  obtain ⟨de,dp,cs,cv,cp,ci⟩:=Sa (bg.m (((ba.t h).t i).t av)) (Int.natCast_nonneg _) (natIdx cy)
  obtain ⟨bo,bw,bp,bx,bq,bz,rfl,cc,cd,ce⟩:=TTable.inv.1 cp
  refine L d c j (I q cv j j j) j fun a c=>L d c j (Fg q ci 0 j j j j) j fun a c=>A d c j z_61 j j fun a w df c d=>R q 1 c j fun a c=>W q 0 d c j j j j j j j j j j fun a w c d=>E (T (S (G (R q 1 c j fun a c=>L d c j (B q 0 j j j j) j fun a c=>?_))))
  have d:=d.pick [2,1,3,0,4] (by decide) j;obtain ⟨c3,c2,f⟩:=bd f
  refine M 3 cl_17 d c j j (fun ad=>(schema_Catalog_table.ok k) c2 ad (ar.m ((h.t i).t av)) bj bi (Sn _ _ _ _ (Nat.zero_le _)) (Sn _ _ _ _ (Nat.zero_le _)) (TTable.inv.2 ⟨bo,bw,bp,bx,bq,bz,j,cc,cd,ce⟩)) j ?_
  rintro a w _ bt _ ⟨br,b0,b2,b3,b1,rfl,rfl,cq,cl⟩ cw d c
  refine R q 1 c j fun a c=>E (T (S (G (R q 2 c j fun a c=>E (T (Cc (b:=!decide (c3.1=(0:Int))) c j (fun a6=>?_) (fun a6=>?_)))))))
  · replace f:=ct a6 f;refine S (G (R q 6 c j fun a c=>E (T (V (Xb (Xr (Xr (Xb (Xr (Xr ?_))))))))));cases f;obtain rfl:=Nr n;have f:=Le bh;cases f
    refine N (v:=_) c j ⟨_,_,_,j,d.nil,j,none,j,Pn⟩
  replace f:=cf a6 f;refine K (xB (T (G (R q 2 c j fun a c=>E (T ?_)))));cases f;have c:=c.setI (t:=61) j (Wc bb (Ln bg))
  exact ⟨l.length,Nat.lt_succ_self _,i341 + 1,l,_,bt,br,b0,b2,b3,b1,j,bb,au,n,(av.t cw),c.kp j,(d.pick [1,0,2,4] (by decide) j),cq,cl⟩

theorem cl_21:Callable Tryz.prog 21:=⟨_,Tryz.func21,by kernel_rfl,by kernel_rfl⟩

def slices_Clone_api_Relation_api_Relation.C (s:(List TRelation)→Option (List TRelation)):Prop:=∀ {d r},s d=some r→∀ {c b f h},Inv c b [] b [] c→(Sl b f h 6 (d.map TRelation.d))→Calls Tryz.prog 21 #[.slice f d.length h] c (Ret c b [] fun G' L' v=>∃ e g i,L'=[.row (.slice e r.length g) 51 6 r.length i]∧v = .slice e r.length g∧RL G' 6 (r.map TRelation.d) i)

theorem slices_Clone_api_Relation_api_Relation.ok (k:Nat):slices_Clone_api_Relation_api_Relation.C (slices_Clone_api_Relation_api_Relation k):=by
  intro u r d aa e h z c g
  unfold slices_Clone_api_Relation_api_Relation at d
  refine Ci 8 Tryz.func21 j j j fun a b=>?_
  refine S (G (R q 1 b j fun a b=>E (T (S (S (G (R q 1 b j fun a b=>?_)))))));rcases h with _ | x
  · obtain rfl:=(g).nil0;have d:some []=some r:=d;cases d
    refine L c b j (f_slnil q j j j j) j fun a b=>E (T (Tr b j (S (G (R q 1 b j fun a b=>E (T ?_))))));have c:=c.nilrow 51 6
    have s:RL e 6 (([]:List TRelation).map TRelation.d) []:=Rn;refine V (Xr (N (v:=_) b j ⟨_,_,_,j,c,none,0,[],j,j,s⟩))
  refine L c b j (f_slnil q j j j j) j fun a b=>E (T (Fa b j (K (T (S (G (Bs ai_36 c b j j j j j fun a w y b c=>?_)))))))
  have n:RL e 6 (([]:List TRelation).map TRelation.d) []:=Rn;refine R q 1 b j fun a b=>?_;obtain ⟨_,t,d⟩:=bd d
  refine s_appG (f:=TRelation.d) (xs:=([]:List TRelation)) (ys:=u) ai_36 0 c b j j g j j (Ll t) j fun a w i l m b p c=>?_;have o:=Ra n p
  refine R q 1 b j fun a b=>E (T (V ?_));cases d;refine N (v:=_) b j ⟨_,_,_,j,c,i,l,([] ++ m),j,j,o⟩

theorem cl_22:Callable Tryz.prog 22:=⟨_,Tryz.func22,by kernel_rfl,by kernel_rfl⟩

def slices_Clone_api_Field_api_Field.C (s:(List TField)→Option (List TField)):Prop:=∀ {d r},s d=some r→∀ {c b f h},Inv c b [] b [] c→(Sl b f h 4 (d.map TField.d))→Calls Tryz.prog 22 #[.slice f d.length h] c (Ret c b [] fun G' L' v=>L'=[]∧∃ e g,v = .slice e r.length g∧Sl G' e g 4 (r.map TField.d))

theorem slices_Clone_api_Field_api_Field.ok (k:Nat):slices_Clone_api_Field_api_Field.C (slices_Clone_api_Field_api_Field k):=by
  intro g r d ac l h z c e
  unfold slices_Clone_api_Field_api_Field at d
  refine Ci 8 Tryz.func22 j j j fun a b=>?_
  refine S (G (R q 1 b j fun a b=>E (T (S (S (G (R q 1 b j fun a b=>?_)))))));rcases h with _ | x
  · obtain rfl:=(e).nil0;have d:some []=some r:=d;cases d
    refine L c b j (f_slnil q j j j j) j fun a b=>E (T (Tr b j (S (G (R q 1 b j fun a b=>E (T (V (Xr (N (v:=_) b j ⟨_,_,_,j,c.nil,j,none,0,j,(Sn _ _ _ _ (Nat.zero_le _))⟩)))))))))
  refine L c b j (f_slnil q j j j j) j fun a b=>E (T (Fa b j (K (T (S (G (Bs ai_47 c b j j j j j fun a w y b c=>?_)))))))
  have o:RL l 4 (([]:List TField).map TField.d) []:=Rn;refine R q 1 b j fun a b=>?_;obtain ⟨_,t,d⟩:=bd d
  refine s_appG (f:=TField.d) (xs:=([]:List TField)) (ys:=g) ai_47 0 c b j j e j j (Ll t) j fun a w i m aa b s c=>?_;have p:=Ra o s
  refine R q 1 b j fun a b=>E (T ?_);obtain ⟨u,ab,c,n⟩:=(c.front 0).giveR (xs:=(([]:List TField) ++ g).map TField.d) (by simp) p;refine V ?_;cases d
  refine N (v:=_) b j ⟨_,_,_,j,c.nil,j,i,m,j,n⟩

theorem cl_23:Callable Tryz.prog 23:=⟨_,Tryz.func23,by kernel_rfl,by kernel_rfl⟩

def slices_Clone_int_int.C (s:(List Int)→Option (List Int)):Prop:=∀ {d r},s d=some r→∀ {c b f h},Inv c b [] b [] c→(Sl b f h 1 (d.map di))→Calls Tryz.prog 23 #[.slice f d.length h] c (Ret c b [] fun G' L' v=>L'=[]∧∃ e g,v = .slice e r.length g∧Sl G' e g 1 (r.map di))

theorem slices_Clone_int_int.ok (k:Nat):slices_Clone_int_int.C (slices_Clone_int_int k):=by
  intro g r d ac l h z c e
  unfold slices_Clone_int_int at d
  refine Ci 8 Tryz.func23 j j j fun a b=>?_
  refine S (G (R q 1 b j fun a b=>E (T (S (S (G (R q 1 b j fun a b=>?_)))))));rcases h with _ | x
  · obtain rfl:=(e).nil0;have d:some []=some r:=d;cases d
    refine L c b j (f_slnil q j j j j) j fun a b=>E (T (Tr b j (S (G (R q 1 b j fun a b=>E (T (V (Xr (N (v:=_) b j ⟨_,_,_,j,c.nil,j,none,0,j,(Sn _ _ _ _ (Nat.zero_le _))⟩)))))))))
  refine L c b j (f_slnil q j j j j) j fun a b=>E (T (Fa b j (K (T (S (G (Bs ai_48 c b j j j j j fun a w y b c=>?_)))))))
  have o:RL l 1 (([]:List Int).map di) []:=Rn;refine R q 1 b j fun a b=>?_;obtain ⟨_,t,d⟩:=bd d
  refine s_appG (f:=di) (xs:=([]:List Int)) (ys:=g) ai_48 0 c b j j e j j (Ll t) j fun a w i m aa b s c=>?_;have p:=Ra o s
  refine R q 1 b j fun a b=>E (T ?_);obtain ⟨u,ab,c,n⟩:=(c.front 0).giveR (xs:=(([]:List Int) ++ g).map di) (by simp) p;refine V ?_;cases d
  refine N (v:=_) b j ⟨_,_,_,j,c.nil,j,i,m,j,n⟩

theorem cl_8:Callable Tryz.prog 8:=⟨_,Tryz.func8,by kernel_rfl,by kernel_rfl⟩

def schema_Catalog_Tables.C (s:(Option Tschema_Catalog)→Option (List TRelation)):Prop:=∀ {g r},s g=some r→∀ {c b e},Inv c b [] b [] c→(Pt b e 58 Tschema_Catalog.d g)→Calls Tryz.prog 8 #[.pointer e] c (Ret c b [] fun G' L' v=>L'=[]∧∃ d f,v = .slice d r.length f∧Sl G' d f 6 (r.map TRelation.d))

theorem schema_Catalog_Tables.ok (k:Nat):schema_Catalog_Tables.C (schema_Catalog_Tables k):=by
  intro cz r i bn bj c0 h bk
  unfold schema_Catalog_Tables at i
  refine Ci 43 Tryz.func8 j j j fun a d=>?_
  
  refine S (G (R q 1 d j fun a d=>E (T (S (S (G (R q 1 d j fun a d=>L h d j (f_pnil up_29 bk j j) j fun a d=>E (T (Cc (b:=cz.isNone) d j (fun bf=>?_) (fun bf=>?_))))))))))
  · replace i:=ct bf i;refine S (G (R q 1 d j fun a d=>E (T (V (Xr ?_)))));cases i
    refine N (v:=_) d j ⟨_,_,_,j,h.nil,j,none,0,j,(Sn _ _ _ _ (Nat.zero_le _))⟩
  replace i:=cf bf i;refine K (T (S (G (R q 1 d j fun a d=>?_))));rcases (bk).cases with ⟨bh,rfl⟩ | ⟨eb,df,cs,bh,rfl,b8,b6⟩
  · cases op_n bh i
  replace i:=op_s bh i;obtain ⟨c1,c2,dh,c3,c4,dj,c5,dk,rfl,dw,br,dx,dy,dz⟩:=Tschema_Catalog.inv.1 b8
  refine R q 2 d j fun a d=>L h d j (Fg q b6 1 j j j j) j fun a d=>?_;obtain ⟨bi,cv,i⟩:=bd i
  refine J cl_21 h d j j ((slices_Clone_api_Relation_api_Relation.ok k) cv h.pass0 br) j ?_;rintro a w _ a7 _ ⟨bo,bp,bq,rfl,rfl,b9⟩ d4 h d
  refine R q 1 d j fun a d=>E (T (S (S (G (R q 3 d j fun a d=>E (T ?_))))));have cl:=h.rle (xs:=bi) 0 j;obtain ⟨bm,ab,b7⟩:=bd i
  refine X d h (fun e L a' w'=>∃ z ax ar az bb,bm = .go z∧a7.le ax∧Env a' 43 [(3,.slice ar z.length az)]∧Inv bn bj [] ax [.row (.slice ar z.length az) 51 6 z.length bb] w'∧RL ax 6 (z.map TRelation.d) bb) ?_ ?_
  rotate_left
  · rintro a w ⟨z,ax,ar,az,bb,rfl,d5,d,h,ca⟩;have i:=Lg b7;refine T (S (G (R q 2 d j fun a d=>E (T ?_))))
    obtain ⟨dc,d6,h,bs⟩:=(h.front 0).giveR (xs:=z.map TRelation.d) (by simp) ca;refine V ?_;cases i;refine N (v:=_) d j ⟨_,_,_,j,h.nil,j,ar,az,j,bs⟩
  
  refine O (Q d h (fun e L n' a' w'=>∃ i477 u l ai ae aa p,n'=List.length u∧i477≤bi.length∧bi.drop i477=u∧forL (schema_Catalog_Tables.b0 k) i477 u l=some bm∧a7.le ai∧Env a' 43 (sl e [14] [(15,i_ (i477:Int)),(3,.slice ae l.length aa),(13,.slice ae l.length aa)])∧Inv bn bj [] ai [.row (.slice ae l.length aa) 51 6 l.length p] w'∧RL ai 6 (l.map TRelation.d) p) _ ⟨0,_,_,a7,bo,bp,bq,j,Nat.zero_le _,j,ab,rf,d.kp j,h,b9⟩ ?_)
  rintro d8 a w ⟨i477,u,l,ai,ae,aa,p,rfl,ck,a3,ab,bl,d,h,ac⟩;rcases u with _ | ⟨ea,u⟩
  · obtain rfl:=Fn ab;have bg:=Do a3 ck;refine S (G (R q 1 d j fun a d=>E (T (S ?_))));have d:=d.tr (t:=16) j (decide_eq_false (by omega))
    refine Fa d j (Ex (Xe (Xe (Xh (T (⟨_,ai,ae,aa,p,j,bl,d.kp j,h,ac⟩))))))
  obtain ⟨d9,i,ab⟩:=Fs ab;obtain ⟨d7,a3,bg⟩:=Dc a3;unfold schema_Catalog_Tables.b0 at i;refine S (G (R q 1 d j fun a d=>E (T (S ?_))))
  have d:=d.tr (t:=16) j (decide_eq_true (by omega));refine Tr d j (K (T (S (O (S (G (R q 1 d j fun a d=>?_)))))));obtain ⟨ec,an,i⟩:=bd i
  obtain ⟨aj,rfl⟩:=row_ptr 0 h j j (Go an).2;obtain ⟨ds,d3,cp,cc⟩:=Rt ac (Go an).2
  obtain ⟨c6,dl,c7,dm,c8,dn,rfl,bt,bu,bv⟩:=TRelation.inv.1 cp
  refine L h d j (I q (Ro (Go an).1 (Go an).2 aj 6) j j j) j fun a d=>L h d j (f_loadR q 0 j cc 0 j j j j (Rl ac (Go an).2)) j fun a d=>A h d j z_51 j j fun a w dg d h=>R q 1 d j fun a d=>W q 0 h d j j j j j j j j j j fun a w d h=>E (T (Mx [0] [14,17,20,23] (.step 0 0 (.step 1 0 (.step 2 0 (.step 3 0 (.step 4 0 (.step 5 0 (.step 6 0 (.step 7 1 (.step 9 0 (.step 10 1 (.step 12 0 (.step 13 1 (.step 8 2 (.step 11 2 (.step 14 3 (.step 15 0 (.step 16 0 (.step 17 3 (.step 18 0 (.step 19 0 (.step 20 3 (.step 21 0 (.step 22 0 (.step 23 3 .nil)))))))))))))))))))))))) mixed (by kernel_rfl) h (by decide) j fun w h hS=>H q 7 d j fun a d=>Dd hS d j j (Rw fun _=>(B q 0 j j j j)) j fun a d=>H q 1 d j fun a d=>Dd hS d j j (Rw fun _=>(B q 0 j j j j)) j fun a d=>H q 1 d j fun a d=>Dd hS d j j (Rw fun _=>(B q 0 j j j j)) j fun a d=>Df j ?_))
  obtain ⟨m,cw,i⟩:=bd i;refine J cl_22 h d j j ((slices_Clone_api_Field_api_Field.ok k) cw h.pass0 bt) j ?_;rintro a w _ dd _ ⟨rfl,af,ak,rfl,bw⟩ s h d
  refine De (h.sw [0] (by decide) j s) fun hS=>Df j ?_;obtain ⟨n,cx,i⟩:=bd i;refine J cl_23 h d j j ((slices_Clone_int_int.ok k) cx h.pass0 (bu.m s)) j ?_
  rintro a w _ de _ ⟨rfl,au,a0,rfl,bx⟩ y h d;refine De (h.sw [0] (by decide) j (s.t y)) fun hS=>Dl j ?_;obtain ⟨o,cy,i⟩:=bd i
  refine J cl_24 h d j j ((slices_Clone_api_Expr_api_Expr.ok k) cy h.pass0 (bv.m (s.t y))) j ?_;rintro a w _ ay _ ⟨rfl,a4,a8,rfl,bz⟩ ad h d;refine Dn ?_
  obtain ⟨c,ao,i⟩:=bd i;obtain ⟨dt,ch,cq,cd⟩:=Rt (ac.m ((s.t y).t ad)) (Go ao).2
  obtain ⟨c9,dp,ag,al,ah,am,rfl,d0,b0,b1⟩:=TRelation.inv.1 cq
  refine Dr d j j (I q (Ro (Go ao).1 (Go ao).2 aj 6) j j j) j fun a d=>H q 1 d j fun a d=>Dl j (s_storeS (xs:=l) (j:=(i477:Int)) (y':=(TRelation.mk c.Name c.Rows m c.Key c.Hide c.When)) q 1 h d j j cd ch (Rl (ac.m ((s.t y).t ad)) (Go ao).2) 2 j j j j j j j j fun a w d cm h=>?_)
  have bc:RL ay 6 ((setO l (i477:Int) (TRelation.mk c.Name c.Rows m c.Key c.Hide c.When)).map TRelation.d) (putAt p ((i477:Int).toNat * 6) [.string c.Name,i_ c.Rows,.slice af m.length ak,.slice ag c.Key.length al,i_ c.Hide,.slice ah c.When.length am]):=RL.set (ac.m ((s.t y).t ad)) (row_lt (Go ao).2) ((TRelation.inv (x:=(TRelation.mk c.Name c.Rows m c.Key c.Hide c.When))).2 ⟨af,ak,ag,al,ah,am,j,(bw.m (y.t ad)),b0,b1⟩) cm
  have d:=d.setV (t:=3) j (Ss (xs:=l) (j:=(i477:Int)) (y':=(TRelation.mk c.Name c.Rows m c.Key c.Hide c.When)))
  have d:=d.setV (t:=13) j (Ss (xs:=l) (j:=(i477:Int)) (y':=(TRelation.mk c.Name c.Rows m c.Key c.Hide c.When)))
  have d:=d.setV (t:=20) j (Ss (xs:=l) (j:=(i477:Int)) (y':=(TRelation.mk c.Name c.Rows m c.Key c.Hide c.When)))
  have d:=d.setV (t:=22) j (Ss (xs:=l) (j:=(i477:Int)) (y':=(TRelation.mk c.Name c.Rows m c.Key c.Hide c.When)))
  have d:=d.setV (t:=24) j (Ss (xs:=l) (j:=(i477:Int)) (y':=(TRelation.mk c.Name c.Rows m c.Key c.Hide c.When)));refine Dn ?_;obtain ⟨f,ap,i⟩:=bd i
  obtain ⟨du,ci,cr,ce⟩:=Rt bc (Go ap).2;obtain ⟨av,a1,da,dq,aw,a2,rfl,b2,d1,b3⟩:=TRelation.inv.1 cr
  refine Dr d j j (I q (Ro (Go ap).1 (Go ap).2 aj 6) j j j) j fun a d=>H q 1 d j fun a d=>Dl j (s_storeS (xs:=(setO l (i477:Int) (TRelation.mk c.Name c.Rows m c.Key c.Hide c.When))) (j:=(i477:Int)) (y':=(TRelation.mk f.Name f.Rows f.Cols n f.Hide f.When)) q 1 h d j j ce ci (Rl bc (Go ap).2) 3 j j j j j j j j fun a w d cn h=>?_)
  have be:RL ay 6 ((setO (setO l (i477:Int) (TRelation.mk c.Name c.Rows m c.Key c.Hide c.When)) (i477:Int) (TRelation.mk f.Name f.Rows f.Cols n f.Hide f.When)).map TRelation.d) (putAt (putAt p ((i477:Int).toNat * 6) [.string c.Name,i_ c.Rows,.slice af m.length ak,.slice ag c.Key.length al,i_ c.Hide,.slice ah c.When.length am]) ((i477:Int).toNat * 6) [.string f.Name,i_ f.Rows,.slice av f.Cols.length a1,.slice au n.length a0,i_ f.Hide,.slice aw f.When.length a2]):=RL.set bc (row_lt (Go ap).2) ((TRelation.inv (x:=(TRelation.mk f.Name f.Rows f.Cols n f.Hide f.When))).2 ⟨av,a1,au,a0,aw,a2,j,b2,(bx.m ad),b3⟩) cn
  have d:=d.setV (t:=3) j (Ss (xs:=(setO l (i477:Int) (TRelation.mk c.Name c.Rows m c.Key c.Hide c.When))) (j:=(i477:Int)) (y':=(TRelation.mk f.Name f.Rows f.Cols n f.Hide f.When)))
  have d:=d.setV (t:=13) j (Ss (xs:=(setO l (i477:Int) (TRelation.mk c.Name c.Rows m c.Key c.Hide c.When))) (j:=(i477:Int)) (y':=(TRelation.mk f.Name f.Rows f.Cols n f.Hide f.When)))
  have d:=d.setV (t:=20) j (Ss (xs:=(setO l (i477:Int) (TRelation.mk c.Name c.Rows m c.Key c.Hide c.When))) (j:=(i477:Int)) (y':=(TRelation.mk f.Name f.Rows f.Cols n f.Hide f.When)))
  have d:=d.setV (t:=22) j (Ss (xs:=(setO l (i477:Int) (TRelation.mk c.Name c.Rows m c.Key c.Hide c.When))) (j:=(i477:Int)) (y':=(TRelation.mk f.Name f.Rows f.Cols n f.Hide f.When)))
  have d:=d.setV (t:=24) j (Ss (xs:=(setO l (i477:Int) (TRelation.mk c.Name c.Rows m c.Key c.Hide c.When))) (j:=(i477:Int)) (y':=(TRelation.mk f.Name f.Rows f.Cols n f.Hide f.When)))
  refine Dn ?_;obtain ⟨g,aq,i⟩:=bd i;obtain ⟨dv,cj,cu,cg⟩:=Rt be (Go aq).2
  obtain ⟨a5,a9,a6,ba,db,dr,rfl,b4,b5,d2⟩:=TRelation.inv.1 cu
  refine Dr d j j (I q (Ro (Go aq).1 (Go aq).2 aj 6) j j j) j fun a d=>H q 1 d j fun a d=>Dl j (s_storeS (xs:=(setO (setO l (i477:Int) (TRelation.mk c.Name c.Rows m c.Key c.Hide c.When)) (i477:Int) (TRelation.mk f.Name f.Rows f.Cols n f.Hide f.When))) (j:=(i477:Int)) (y':=(TRelation.mk g.Name g.Rows g.Cols g.Key g.Hide o)) q 1 h d j j cg cj (Rl be (Go aq).2) 5 j j j j j j j j fun a w d co h=>?_)
  have cb:RL ay 6 ((setO (setO (setO l (i477:Int) (TRelation.mk c.Name c.Rows m c.Key c.Hide c.When)) (i477:Int) (TRelation.mk f.Name f.Rows f.Cols n f.Hide f.When)) (i477:Int) (TRelation.mk g.Name g.Rows g.Cols g.Key g.Hide o)).map TRelation.d) (putAt (putAt (putAt p ((i477:Int).toNat * 6) [.string c.Name,i_ c.Rows,.slice af m.length ak,.slice ag c.Key.length al,i_ c.Hide,.slice ah c.When.length am]) ((i477:Int).toNat * 6) [.string f.Name,i_ f.Rows,.slice av f.Cols.length a1,.slice au n.length a0,i_ f.Hide,.slice aw f.When.length a2]) ((i477:Int).toNat * 6) [.string g.Name,i_ g.Rows,.slice a5 g.Cols.length a9,.slice a6 g.Key.length ba,i_ g.Hide,.slice a4 o.length a8]):=RL.set be (row_lt (Go aq).2) ((TRelation.inv (x:=(TRelation.mk g.Name g.Rows g.Cols g.Key g.Hide o))).2 ⟨a5,a9,a6,ba,a4,a8,j,b4,b5,bz⟩) co
  have d:=d.setV (t:=3) j (Ss (xs:=(setO (setO l (i477:Int) (TRelation.mk c.Name c.Rows m c.Key c.Hide c.When)) (i477:Int) (TRelation.mk f.Name f.Rows f.Cols n f.Hide f.When))) (j:=(i477:Int)) (y':=(TRelation.mk g.Name g.Rows g.Cols g.Key g.Hide o)))
  have d:=d.setV (t:=13) j (Ss (xs:=(setO (setO l (i477:Int) (TRelation.mk c.Name c.Rows m c.Key c.Hide c.When)) (i477:Int) (TRelation.mk f.Name f.Rows f.Cols n f.Hide f.When))) (j:=(i477:Int)) (y':=(TRelation.mk g.Name g.Rows g.Cols g.Key g.Hide o)))
  have d:=d.setV (t:=20) j (Ss (xs:=(setO (setO l (i477:Int) (TRelation.mk c.Name c.Rows m c.Key c.Hide c.When)) (i477:Int) (TRelation.mk f.Name f.Rows f.Cols n f.Hide f.When))) (j:=(i477:Int)) (y':=(TRelation.mk g.Name g.Rows g.Cols g.Key g.Hide o)))
  have d:=d.setV (t:=22) j (Ss (xs:=(setO (setO l (i477:Int) (TRelation.mk c.Name c.Rows m c.Key c.Hide c.When)) (i477:Int) (TRelation.mk f.Name f.Rows f.Cols n f.Hide f.When))) (j:=(i477:Int)) (y':=(TRelation.mk g.Name g.Rows g.Cols g.Key g.Hide o)))
  have d:=d.setV (t:=24) j (Ss (xs:=(setO (setO l (i477:Int) (TRelation.mk c.Name c.Rows m c.Key c.Hide c.When)) (i477:Int) (TRelation.mk f.Name f.Rows f.Cols n f.Hide f.When))) (j:=(i477:Int)) (y':=(TRelation.mk g.Name g.Rows g.Cols g.Key g.Hide o)))
  refine Dn (Dz (xB (T (G (R q 2 d j fun a d=>E (T ?_))))));cases i;have d:=d.setI (t:=15) j (Wc bg cl)
  exact ⟨u.length,Nat.lt_succ_self _,i477 + 1,u,_,ay,(p_ aj),aa,(putAt (putAt (putAt p ((i477:Int).toNat * 6) [.string c.Name,i_ c.Rows,.slice af m.length ak,.slice ag c.Key.length al,i_ c.Hide,.slice ah c.When.length am]) ((i477:Int).toNat * 6) [.string f.Name,i_ f.Rows,.slice av f.Cols.length a1,.slice au n.length a0,i_ f.Hide,.slice aw f.When.length a2]) ((i477:Int).toNat * 6) [.string g.Name,i_ g.Rows,.slice a5 g.Cols.length a9,.slice a6 g.Key.length ba,i_ g.Hide,.slice a4 o.length a8]),j,bg,a3,ab,(((bl.t s).t y).t ad),d.kp j,(h.dropN 1 j),cb⟩

theorem cl_25:Callable Tryz.prog 25:=⟨_,Tryz.func25,by kernel_rfl,by kernel_rfl⟩

def slices_Clone_api_Named_api_Named.C (s:(List TNamed)→Option (List TNamed)):Prop:=∀ {d r},s d=some r→∀ {c b f h},Inv c b [] b [] c→(Sl b f h 2 (d.map TNamed.d))→Calls Tryz.prog 25 #[.slice f d.length h] c (Ret c b [] fun G' L' v=>L'=[]∧∃ e g,v = .slice e r.length g∧Sl G' e g 2 (r.map TNamed.d))

theorem slices_Clone_api_Named_api_Named.ok (k:Nat):slices_Clone_api_Named_api_Named.C (slices_Clone_api_Named_api_Named k):=by
  intro g r d ac l h z c e
  unfold slices_Clone_api_Named_api_Named at d
  refine Ci 8 Tryz.func25 j j j fun a b=>?_
  refine S (G (R q 1 b j fun a b=>E (T (S (S (G (R q 1 b j fun a b=>?_)))))));rcases h with _ | x
  · obtain rfl:=(e).nil0;have d:some []=some r:=d;cases d
    refine L c b j (f_slnil q j j j j) j fun a b=>E (T (Tr b j (S (G (R q 1 b j fun a b=>E (T (V (Xr (N (v:=_) b j ⟨_,_,_,j,c.nil,j,none,0,j,(Sn _ _ _ _ (Nat.zero_le _))⟩)))))))))
  refine L c b j (f_slnil q j j j j) j fun a b=>E (T (Fa b j (K (T (S (G (Bs ai_38 c b j j j j j fun a w y b c=>?_)))))))
  have o:RL l 2 (([]:List TNamed).map TNamed.d) []:=Rn;refine R q 1 b j fun a b=>?_;obtain ⟨_,t,d⟩:=bd d
  refine s_appG (f:=TNamed.d) (xs:=([]:List TNamed)) (ys:=g) ai_38 0 c b j j e j j (Ll t) j fun a w i m aa b s c=>?_;have p:=Ra o s
  refine R q 1 b j fun a b=>E (T ?_);obtain ⟨u,ab,c,n⟩:=(c.front 0).giveR (xs:=(([]:List TNamed) ++ g).map TNamed.d) (by simp) p;refine V ?_;cases d
  refine N (v:=_) b j ⟨_,_,_,j,c.nil,j,i,m,j,n⟩

theorem cl_9:Callable Tryz.prog 9:=⟨_,Tryz.func9,by kernel_rfl,by kernel_rfl⟩

def schema_Catalog_Channels.C (s:(Option Tschema_Catalog)→Option (List TNamed)):Prop:=∀ {g r},s g=some r→∀ {c b e},Inv c b [] b [] c→(Pt b e 58 Tschema_Catalog.d g)→Calls Tryz.prog 9 #[.pointer e] c (Ret c b [] fun G' L' v=>L'=[]∧∃ d f,v = .slice d r.length f∧Sl G' d f 2 (r.map TNamed.d))

theorem schema_Catalog_Channels.ok (k:Nat):schema_Catalog_Channels.C (schema_Catalog_Channels k):=by
  intro t r d an ac u e h
  unfold schema_Catalog_Channels at d
  refine Ci 10 Tryz.func9 j j j fun a c=>?_
  
  refine S (G (R q 1 c j fun a c=>E (T (S (S (G (R q 1 c j fun a c=>L e c j (f_pnil up_29 h j j) j fun a c=>E (T (Cc (b:=t.isNone) c j (fun f=>?_) (fun f=>?_))))))))))
  · replace d:=ct f d;refine S (G (R q 1 c j fun a c=>E (T (V (Xr ?_)))));cases d
    refine N (v:=_) c j ⟨_,_,_,j,e.nil,j,none,0,j,(Sn _ _ _ _ (Nat.zero_le _))⟩
  replace d:=cf f d;refine K (T (S (G (R q 1 c j fun a c=>?_))));rcases (h).cases with ⟨g,rfl⟩ | ⟨ao,ae,cs,g,rfl,p,o⟩
  · cases op_n g d
  replace d:=op_s g d;obtain ⟨x,y,af,z,aa,ag,ab,ah,rfl,ai,aj,ak,m,al⟩:=Tschema_Catalog.inv.1 p
  refine R q 2 c j fun a c=>L e c j (Fg q o 3 j j j j) j fun a c=>?_;obtain ⟨ap,s,d⟩:=bd d
  refine J cl_25 e c j j ((slices_Clone_api_Named_api_Named.ok k) s e.pass0 m) j ?_;rintro a w _ ad _ ⟨rfl,i,l,rfl,n⟩ am e c;refine R q 1 c j fun a c=>E (T (V ?_))
  cases d;refine N (v:=_) c j ⟨_,_,_,j,e.nil,j,i,l,j,n⟩

theorem cl_26:Callable Tryz.prog 26:=⟨_,Tryz.func26,by kernel_rfl,by kernel_rfl⟩

def schema_find.C (s:(List TNamed)→ByteArray→Option (Int × Bool)):Prop:=∀ {d g r},s d g=some r→∀ {c b e f},Inv c b [] b [] c→(Sl b e f 2 (d.map TNamed.d))→Calls Tryz.prog 26 #[.slice e d.length f,.string g] c (Ret c b [] fun G' L' v=>L'=[]∧v = .tuple ⟨[i_ r.1,.bool r.2]⟩)

theorem schema_find.ok (k:Nat):schema_find.C (schema_find k):=by
  intro z aa r f ad i ak an d u
  unfold schema_find at f
  refine Ci 21 Tryz.func26 j j j fun a c=>?_
  refine S (G (R q 2 c j fun a c=>E (T (S (S (G (R q 3 c j fun a c=>E (T ?_))))))));obtain ⟨y,h,x⟩:=bd f
  refine X c d (fun e L a' w'=>∃ ac n,y = .go ac∧i.le n∧Env a' 21 []∧Inv ad i [] n L w') ?_ ?_;rotate_left
  · rintro a w ⟨ac,n,rfl,ao,c,d⟩;have f:=Lg x;refine T (S (G (R q 2 c j fun a c=>E (T (V ?_)))));cases f;refine N (v:=_) c j ⟨_,_,_,j,d.nil,j,j⟩
  
  refine O (Q c d (fun e L n' a' w'=>∃ i29 g ab l,n'=List.length g∧i29≤z.length∧z.drop i29=g∧forL (schema_find.b0 k aa) i29 g ab=some y∧i.le l∧Env a' 21 (sl e [1,8,9] [(10,i_ (i29:Int))])∧Inv ad i [] l L w') _ ⟨0,_,_,i,j,Nat.zero_le _,j,h,rf,c.kp j,d⟩ ?_)
  rintro ap a w ⟨i29,g,ab,l,rfl,ah,m,h,p,c,d⟩;rcases g with _ | ⟨aj,g⟩
  · obtain rfl:=Fn h;have s:=Do m ah;refine S (G (R q 1 c j fun a c=>E (T (S ?_))));have c:=c.tr (t:=11) j (decide_eq_false (by omega))
    refine Fa c j (Ex (Xe (Xe (Xh (T (⟨_,l,j,p,c.kp j,d⟩))))))
  obtain ⟨ar,f,h⟩:=Fs h;obtain ⟨ai,m,s⟩:=Dc m;unfold schema_find.b0 at f;refine S (G (R q 1 c j fun a c=>E (T (S ?_))))
  have c:=c.tr (t:=11) j (decide_eq_true (by omega));refine Tr c j (K (T (S (O (S (G ?_))))))
  obtain ⟨al,aq,cs,ag,af,ae⟩:=Sa (u.m p) (Int.natCast_nonneg _) (natIdx ai);obtain rfl:=TNamed.inv.1 af
  refine L d c j (I q ag j j j) j fun a c=>L d c j (Fg q ae 0 j j j j) j fun a c=>A d c j z_41 j j fun a w am c d=>W q 0 d c j j j j j j j j j j fun a w c d=>E (T (S (G (R q 1 c j fun a c=>L d c j (B q 0 j j j j) j fun a c=>R q 2 c j fun a c=>E (T (Cc (b:=decide (aj.Name=aa)) c j (fun o=>?_) (fun o=>?_)))))))
  rotate_left
  · replace f:=cf o f;refine K (xB (T (G (R q 2 c j fun a c=>E (T ?_)))));cases f;have c:=c.setI (t:=10) j (Wc s (Ln u))
    exact ⟨g.length,Nat.lt_succ_self _,i29 + 1,g,_,l,j,s,m,h,p,c.kp j,(d.dropN 1 j)⟩
  replace f:=ct o f
  refine S (G (R q 1 c j fun a c=>L d c j (B q 0 j j j j) j fun a c=>R q 2 c j fun a c=>E (T (V (Xb (Xr (Xr (Xb (Xr (Xr ?_))))))))));cases f
  obtain rfl:=Nr h;have f:=Le x;cases f;refine N (v:=_) c j ⟨_,_,_,j,d.nil,j,j⟩

theorem cl_10:Callable Tryz.prog 10:=⟨_,Tryz.func10,by kernel_rfl,by kernel_rfl⟩

def schema_Catalog_Channel.C (s:(Option Tschema_Catalog)→ByteArray→Option (Int × Bool)):Prop:=∀ {e f r},s e f=some r→∀ {c b d},Inv c b [] b [] c→(Pt b d 58 Tschema_Catalog.d e)→Calls Tryz.prog 10 #[.pointer d,.string f] c (Ret c b [] fun G' L' v=>L'=[]∧v = .tuple ⟨[i_ r.1,.bool r.2]⟩)

theorem schema_Catalog_Channel.ok (k:Nat):schema_Catalog_Channel.C (schema_Catalog_Channel k):=by
  intro u x r d y m i c f
  unfold schema_Catalog_Channel at d
  refine Ci 12 Tryz.func10 j j j fun a b=>?_
  refine S (G (R q 2 b j fun a b=>E (T (S (G (R q 1 b j fun a b=>?_))))));obtain ⟨aa,g,d⟩:=bd d
  refine J cl_9 c b j j ((schema_Catalog_Channels.ok k) g c.pass0 f) j ?_;rintro a w _ n _ ⟨rfl,l,p,rfl,e⟩ s c b;refine R q 1 b j fun a b=>?_
  obtain ⟨z,h,d⟩:=bd d;refine J cl_26 c b j j ((schema_find.ok k) h c.pass0 e) j ?_;rintro a w _ o _ ⟨rfl,rfl⟩ t c b;refine R q 4 b j fun a b=>E (T (V ?_))
  cases d;refine N (v:=_) b j ⟨_,_,_,j,c.nil,j,j⟩

theorem cl_77:Callable Tryz.prog 77:=⟨_,Tryz.func77,by kernel_rfl,by kernel_rfl⟩

def ref05_blank.C (s:Int→Option Bool):Prop:=∀ {d r},s d=some r→∀ {b c },Inv b c [] c [] b→Calls Tryz.prog 77 #[.int .u8 d] b (Ret b c [] fun G' L' v=>L'=[]∧v = .bool r)

theorem ref05_blank.ok (k:Nat):ref05_blank.C (ref05_blank k):=by
  intro m r c p f  d
  unfold ref05_blank at c
  refine Ci 17 Tryz.func77 j j j fun a b=>?_
  refine S (G (R q 1 b j fun a b=>E (T (S ?_))));obtain ⟨o,c,n⟩:=bd c;refine X b d (fun e L a' w'=>∃ l,f.le l∧Env a' 17 [(2,.bool o)]∧Inv p f [] l L w') ?_ ?_
  rotate_left
  · rintro a w ⟨l,s,b,d⟩;have c:=n;refine T (V ?_);cases c;refine N (v:=_) b j ⟨_,_,_,j,d.nil,j,j⟩
  refine G (R q 3 b j fun a b=>?_);rcases Bo (decide (m=(32:Int))) with i | i
  · replace c:=ct i c;have b:=b.tr (t:=5) j i;refine R q 12 b j fun a b=>E (T ?_);cases c;exact ⟨f,rf,b.kp j,d⟩
  replace c:=cf i c;have b:=b.tr (t:=5) j i;refine R q 4 b j fun a b=>?_;rcases Bo (decide (m=(9:Int))) with g | g
  · replace c:=ct g c;have b:=b.tr (t:=9) j g;refine R q 8 b j fun a b=>E (T ?_);cases c;exact ⟨f,rf,b.kp j,d⟩
  replace c:=cf g c;have b:=b.tr (t:=9) j g;refine R q 4 b j fun a b=>?_;rcases Bo (decide (m=(10:Int))) with h | h
  · replace c:=ct h c;have b:=b.tr (t:=13) j h;refine R q 4 b j fun a b=>E (T ?_);cases c;exact ⟨f,rf,b.kp j,d⟩
  replace c:=cf h c;have b:=b.tr (t:=13) j h;refine R q 4 b j fun a b=>E (T ?_);cases c;exact ⟨f,rf,b.kp j,d⟩

theorem cl_83:Callable Tryz.prog 83:=⟨_,Tryz.func83,by kernel_rfl,by kernel_rfl⟩

def ref05_letter.C (s:Int→Option Bool):Prop:=∀ {d r},s d=some r→∀ {b c },Inv b c [] c [] b→Calls Tryz.prog 83 #[.int .u8 d] b (Ret b c [] fun G' L' v=>L'=[]∧v = .bool r)

theorem ref05_letter.ok (k:Nat):ref05_letter.C (ref05_letter k):=by
  intro g r c x f  d
  unfold ref05_letter at c
  refine Ci 21 Tryz.func83 j j j fun a b=>?_
  refine S (G (R q 1 b j fun a b=>E (T (S ?_))));obtain ⟨u,c,s⟩:=bd c;refine X b d (fun e L a' w'=>∃ p,f.le p∧Env a' 21 [(2,.bool u)]∧Inv x f [] p L w') ?_ ?_
  rotate_left
  · rintro a w ⟨p,y,b,d⟩;have c:=s;refine T (V ?_);cases c;refine N (v:=_) b j ⟨_,_,_,j,d.nil,j,j⟩
  refine G (R q 3 b j fun a b=>?_);rcases Bo (decide ((97:Int)≤g)) with h | h;rotate_left
  · replace c:=cf h c;have b:=b.tr (t:=5) j h;refine R q 7 b j fun a b=>?_;rcases Bo (decide ((65:Int)≤g)) with n | n;rotate_left
    · replace c:=cf n c;have b:=b.tr (t:=12) j n;refine R q 9 b j fun a b=>E (T ?_);cases c;exact ⟨f,rf,b.kp j,d⟩
    replace c:=ct n c;have b:=b.tr (t:=12) j n;refine R q 5 b j fun a b=>?_;rcases Bo (decide (g≤(90:Int))) with o | o
    · replace c:=ct o c;have b:=b.tr (t:=17) j o;refine R q 4 b j fun a b=>E (T ?_);cases c;exact ⟨f,rf,b.kp j,d⟩
    replace c:=cf o c;have b:=b.tr (t:=17) j o;refine R q 4 b j fun a b=>E (T ?_);cases c;exact ⟨f,rf,b.kp j,d⟩
  replace c:=ct h c;have b:=b.tr (t:=5) j h;refine R q 4 b j fun a b=>?_;rcases Bo (decide (g≤(122:Int))) with i | i
  · replace c:=ct i c;have b:=b.tr (t:=9) j i;refine R q 12 b j fun a b=>E (T ?_);cases c;exact ⟨f,rf,b.kp j,d⟩
  replace c:=cf i c;have b:=b.tr (t:=9) j i;refine R q 3 b j fun a b=>?_;rcases Bo (decide ((65:Int)≤g)) with l | l;rotate_left
  · replace c:=cf l c;have b:=b.tr (t:=12) j l;refine R q 9 b j fun a b=>E (T ?_);cases c;exact ⟨f,rf,b.kp j,d⟩
  replace c:=ct l c;have b:=b.tr (t:=12) j l;refine R q 5 b j fun a b=>?_;rcases Bo (decide (g≤(90:Int))) with m | m
  · replace c:=ct m c;have b:=b.tr (t:=17) j m;refine R q 4 b j fun a b=>E (T ?_);cases c;exact ⟨f,rf,b.kp j,d⟩
  replace c:=cf m c;have b:=b.tr (t:=17) j m;refine R q 4 b j fun a b=>E (T ?_);cases c;exact ⟨f,rf,b.kp j,d⟩

theorem cl_84:Callable Tryz.prog 84:=⟨_,Tryz.func84,by kernel_rfl,by kernel_rfl⟩

def ref05_digit.C (s:Int→Option Bool):Prop:=∀ {d r},s d=some r→∀ {b c },Inv b c [] c [] b→Calls Tryz.prog 84 #[.int .u8 d] b (Ret b c [] fun G' L' v=>L'=[]∧v = .bool r)

theorem ref05_digit.ok (k:Nat):ref05_digit.C (ref05_digit k):=by
  intro m r c n g  d
  unfold ref05_digit at c
  refine Ci 9 Tryz.func84 j j j fun a b=>?_
  refine S (G (R q 1 b j fun a b=>E (T (S ?_))));obtain ⟨l,c,i⟩:=bd c;refine X b d (fun e L a' w'=>∃ h,g.le h∧Env a' 9 [(2,.bool l)]∧Inv n g [] h L w') ?_ ?_
  rotate_left
  · rintro a w ⟨h,o,b,d⟩;have c:=i;refine T (V ?_);cases c;refine N (v:=_) b j ⟨_,_,_,j,d.nil,j,j⟩
  refine G (R q 3 b j fun a b=>?_);rcases Bo (decide ((48:Int)≤m)) with f | f
  · replace c:=ct f c;have b:=b.tr (t:=5) j f;refine R q 4 b j fun a b=>E (T ?_);cases c;exact ⟨g,rf,b.kp j,d⟩
  replace c:=cf f c;have b:=b.tr (t:=5) j f;refine R q 4 b j fun a b=>E (T ?_);cases c;exact ⟨g,rf,b.kp j,d⟩

theorem cl_85:Callable Tryz.prog 85:=⟨_,Tryz.func85,by kernel_rfl,by kernel_rfl⟩

def ref05_text.C (s:ByteArray→Int→Option (Int × ByteArray × Int × Int)):Prop:=∀ {d e r},s d e=some r→∀ {b c },Inv b c [] c [] b→Calls Tryz.prog 85 #[.string d,i_ e] b (Ret b c [] fun G' L' v=>L'=[]∧v = .tuple ⟨[i_ r.1,.string r.2.1,i_ r.2.2.1,i_ r.2.2.2]⟩)

theorem ref05_text.ok (k:Nat):ref05_text.C (ref05_text k):=by
  intro au bn r d ab l  g
  unfold ref05_text at d
  refine Ci 65 Tryz.func85 j j j fun a c=>?_
  refine S (G (R q 4 c j fun a c=>E (T (S (G (R q 1 c j fun a c=>E (T (S (S (G (R q 3 c j fun a c=>E (T ?_))))))))))));have g:=g.nilrow 5 1
  have a8:RL l 1 (([]:List Int).map (D.int .u8)) []:=Rn;obtain ⟨a3,i,ai⟩:=bd d
  refine X c g (fun e L a' w'=>∃ aa ae aw ax ak,a3 = .go aa∧l.le ae∧Env a' 65 (sl e [1] [])∧Inv ab l [] ae [.row (.slice aw aa.1.length ax) 5 1 aa.1.length ak] w'∧RL ae 1 (aa.1.map (D.int .u8)) ak) ?_ ?_
  rotate_left
  · rintro a w ⟨aa,ae,aw,ax,ak,rfl,bu,c,g,bt⟩;have d:=Lg ai;refine T (S (G (R q 5 c j fun a c=>E (T (V ?_)))));cases d
    refine N (v:=_) c j ⟨_,_,_,j,g.nil,j,j⟩
  
  refine O (Q c g (fun e L n' a' w'=>∃ h m ac af p,whileL (ref05_text.b0 k au bn) n' h=some a3∧l.le m∧Env a' 65 (sl e [0,1] [(8,.slice ac h.1.length af),(9,i_ h.2)])∧Inv ab l [] m [.row (.slice ac h.1.length af) 5 1 h.1.length p] w'∧RL m 1 (h.1.map (D.int .u8)) p) _ ⟨_,l,none,0,[],i,rf,c.kp j,g,a8⟩ ?_)
  rintro ar a w ⟨h,m,ac,af,p,i,a0,c,g,aj⟩;rcases ar with _ | ar
  · cases i
  obtain ⟨bo,d,i⟩:=Wh i;unfold ref05_text.b0 at d
  refine S (S (G (R q 4 c j fun a c=>E (T (Cc (b:=decide (h.2 < (au.size:Int))) c j (fun ap=>?_) (fun ap=>?_))))));rotate_left
  · replace d:=cf ap d;refine Ex (Xe (Xe (Xh (T ?_))));cases d;obtain rfl:=Wb i;exact ⟨_,m,ac,af,p,j,a0,c.kp j,g,aj⟩
  replace d:=ct ap d
  refine K (T (S (X c g (fun e L a' w'=>∃ o,ref05_text.j1 k o=some bo∧∃ s ad ag ah,m.le s∧Env a' 65 (sl e [0,1] [(8,.slice ad o.1.length ag),(9,i_ o.2)])∧Inv ab l [] s [.row (.slice ad o.1.length ag) 5 1 o.1.length ah] w'∧RL s 1 (o.1.map (D.int .u8)) ah) ?_ ?_)))
  rotate_left
  · rintro a w ⟨o,d,s,ad,ag,ah,bh,c,g,a9⟩;unfold ref05_text.j1 at d;refine T (G (R q 3 c j fun a c=>E (T ?_)));cases d
    exact ⟨ar,Nat.lt_succ_self _,_,s,ad,ag,ah,i,(a0.t bh),c.kp j,g,a9⟩
  refine O (S (S ?_));obtain ⟨a1,d,ba⟩:=bd d;refine X c g (fun e L a' w'=>∃ n,m.le n∧Env a' 65 (sl e [0,1,8,9] [(27,.bool a1)])∧Inv ab l [] n L w') ?_ ?_
  · refine G (R q 2 c j fun a c=>?_);obtain ⟨bq,bl,d⟩:=bd d;refine L g c j (f_sidx q j j j bl) j fun a c=>R q 2 c j fun a c=>?_
    rcases Bo (decide (bq < (32:Int))) with y | y;rotate_left
    · replace d:=cf y d;have c:=c.tr (t:=22) j y;refine R q 5 c j fun a c=>E (T ?_);cases d;exact ⟨m,rf,c.kp j,g⟩
    replace d:=ct y d;have c:=c.tr (t:=22) j y;refine R q 2 c j fun a c=>?_;obtain ⟨bw,bm,d⟩:=bd d
    refine L g c j (f_sidx q j j j bm) j fun a c=>R q 2 c j fun a c=>E (T ?_);cases d;exact ⟨m,rf,c.kp j,g⟩
  rintro a w ⟨n,z,c,g⟩;have d:=ba;refine T (Cc (b:=a1) c j (fun ao=>?_) (fun ao=>?_))
  · replace d:=ct ao d;refine S (G (R q 5 c j fun a c=>E (T (V (Xr (Xb (Xr (Xr (Xr (Xb (Xr (Xr ?_))))))))))));cases d;obtain rfl:=Wr i;have d:=Le ai
    cases d;refine N (v:=_) c j ⟨_,_,_,j,g.nil,j,j⟩
  replace d:=cf ao d;refine K (T (S (S (G (R q 2 c j fun a c=>?_)))));obtain ⟨bp,bi,d⟩:=bd d
  refine L g c j (f_sidx q j j j bi) j fun a c=>R q 1 c j fun a c=>E (T (Cc (b:=!decide (bp=(39:Int))) c j (fun an=>?_) (fun an=>?_)))
  · replace d:=ct an d;refine S (G (R q 3 c j fun a c=>?_));obtain ⟨av,bj,d⟩:=bd d
    refine L g c j (f_sidx q j j j bj) j fun a c=>Bs ai_157 g c j j j j j fun a w br c g=>?_
    have ay:RL n 1 ([av].map (D.int .u8)) _:=(Rc (rep_int.2 j) j Rn);obtain ⟨_,bf,d⟩:=bd d
    refine Ao (f:=(D.int .u8)) (xs:=h.1) (ys:=[av]) ai_157 1 0 g c j j j ay j j (Ll bf) j fun a w a4 a6 c g=>?_;have bb:=Ra (aj.m z) ay
    refine R q 1 c j fun a c=>E (T (Ex (Xe (Xh (T (⟨_,d,n,a4,a6,(p ++ [.int .u8 av]),z,c.kp j,(g.dropN 1 j),bb⟩))))))
  replace d:=cf an d;refine K (T (S (S ?_)));obtain ⟨a2,d,bc⟩:=bd d
  refine X c g (fun e L a' w'=>∃ u,n.le u∧Env a' 65 (sl e [0,1,8,9] [(50,.bool a2)])∧Inv ab l [] u L w') ?_ ?_
  · refine G (R q 6 c j fun a c=>?_);rcases Bo (decide ((w64 (h.2 + (1:Int))) < (au.size:Int))) with x | x;rotate_left
    · replace d:=cf x d;have c:=c.tr (t:=44) j x;refine R q 6 c j fun a c=>E (T ?_);cases d;exact ⟨n,rf,c.kp j,g⟩
    replace d:=ct x d;have c:=c.tr (t:=44) j x;refine R q 3 c j fun a c=>?_;obtain ⟨bv,bk,d⟩:=bd d
    refine L g c j (f_sidx q j j j bk) j fun a c=>R q 2 c j fun a c=>E (T ?_);cases d;exact ⟨n,rf,c.kp j,g⟩
  rintro a w ⟨u,aq,c,g⟩;have d:=bc;refine T (Cc (b:=a2) c j (fun am=>?_) (fun am=>?_))
  · replace d:=ct am d;refine S (G (R q 1 c j fun a c=>Bs ai_157 g c j j j j j fun a w bs c g=>?_))
    have az:RL u 1 ([(39:Int)].map (D.int .u8)) _:=(Rc (rep_int.2 j) j Rn);obtain ⟨_,bg,d⟩:=bd d
    refine Ao (f:=(D.int .u8)) (xs:=h.1) (ys:=[(39:Int)]) ai_157 1 0 g c j j j az j j (Ll bg) j fun a w a5 a7 c g=>?_
    have be:=Ra (aj.m (z.t aq)) az
    refine R q 1 c j fun a c=>E (T (S (G (R q 3 c j fun a c=>E (T (Ex (Xe (Xh (T (⟨_,d,u,a5,a7,(p ++ [.int .u8 (39:Int)]),(z.t aq),c.kp j,(g.dropN 1 j),be⟩))))))))))
  replace d:=cf am d;refine K (T (S (S (G (R q 3 c j fun a c=>E (T (Cc (b:=decide ((1000:Int) < (h.1.length:Int))) c j (fun al=>?_) (fun al=>?_))))))))
  · replace d:=ct al d;refine S (G (R q 5 c j fun a c=>E (T (V (Xr (Xb (Xr (Xr (Xr (Xb (Xr (Xr ?_))))))))))));cases d;obtain rfl:=Wr i;have d:=Le ai
    cases d;refine N (v:=_) c j ⟨_,_,_,j,g.nil,j,j⟩
  replace d:=cf al d
  refine K (T (S (Cd mixed (by kernel_rfl) g (Y q 3 c j fun a c=>Z c j (f_b2sR 0 ul_157 uk_5 uk_9 j (aj.m (z.t aq)) j) j fun a c=>Y q 4 c j fun a c=>Qe ?_))))
  intro w g;refine T (V (Xb (Xr (Xr (Xr (Xb (Xr (Xr ?_))))))));cases d;obtain rfl:=Wr i;have d:=Le ai;cases d;refine N (v:=_) c j ⟨_,_,_,j,g.nil,j,j⟩

theorem cl_86:Callable Tryz.prog 86:=⟨_,Tryz.func86,by kernel_rfl,by kernel_rfl⟩

def ref05_Marks.C (s:Option (List ByteArray)):Prop:=∀ { r},s =some r→∀ {b c },Inv b c [] c [] b→Calls Tryz.prog 86 #[] b (Ret b c [] fun G' L' v=>L'=[]∧∃ d e,v = .slice d r.length e∧Sl G' d e 1 (r.map D.str))
end Go.Proofs.YtliaopbgkcdibaaGreat
