/- The contracts: what the machine does at a call is what the plain function says. Written by mk.py. -/
import Derived.Test.YtknhbphhdfknaaaGreatDoorCgT0
set_option linter.unusedVariables false
set_option linter.unusedSimpArgs false
set_option maxRecDepth 100000
namespace Go.Proofs.YtknhbphhdfknaaaGreatDoor
open Go.RowKit
theorem law07_WeighSchema.ok (k:Nat):law07_WeighSchema.C (law07_WeighSchema k):=by
  intro a1 r f p g cz d bm
  unfold law07_WeighSchema at f
  obtain ⟨b6,cr,b9,cu,ca,cy,b7,cp,b8,cq,rfl,a6,a7,bb,a4,a5⟩:=TSchema.inv.1 bm
  refine Ci 86 Tryz.func37 j j j fun a c=>?_
  
  refine S (G (s_box d c j j j j fun a w cl c d=>R q 1 c j fun a c=>E (T (S (Cd mixed (by kernel_rfl) d (Y q 1 c j fun a c=>Z c j (B q 0 j j j j) j fun a c=>?_))))))
  obtain ⟨c8,bx,f⟩:=bd f
  refine Qc cl_63 c j j (fun w d=>(law07_weighNames.ok k) bx d.pass0 a6) (fun _ _ _ h=>h.2) j fun a c=>Y q 1 c j fun a c=>Z c j (B q 0 j j j j) j fun a c=>?_
  obtain ⟨c9,bz,f⟩:=bd f
  refine Qc cl_64 c j j (fun w d=>(law07_weighPairs.ok k) bz d.pass0 a7) (fun _ _ _ h=>h.2) j fun a c=>Y q 2 c j fun a c=>Z c j (B q 0 j j j j) j fun a c=>?_
  obtain ⟨da,b0,f⟩:=bd f
  refine Qc cl_64 c j j (fun w d=>(law07_weighPairs.ok k) b0 d.pass0 a4) (fun _ _ _ h=>h.2) j fun a c=>Y q 2 c j fun a c=>Z c j (B q 0 j j j j) j fun a c=>?_
  obtain ⟨db,b1,f⟩:=bd f;refine Qc cl_64 c j j (fun w d=>(law07_weighPairs.ok k) b1 d.pass0 a5) (fun _ _ _ h=>h.2) j fun a c=>Y q 2 c j fun a c=>Qe ?_;intro w d
  refine T (S (S (G (R q 1 c j fun a c=>E (T ?_)))));obtain ⟨az,l,bg⟩:=bd f
  refine X c d (fun e L a' w'=>∃ ar ai,az = .go ar∧g.le ai∧Env a' 86 [(3,i_ ar.1)]∧Inv p g [] ai L w') ?_ ?_;rotate_left
  · rintro a w ⟨ar,ai,rfl,c0,c,d⟩;have f:=Lg bg;refine T (S (G (R q 3 c j fun a c=>E (T (V ?_)))));cases f
    refine N (v:=_) c j ⟨_,_,_,j,d.nil,j,j⟩
  
  refine O (Q c d (fun e L n' a' w'=>∃ ab n,whileL (law07_WeighSchema.b0 k a1) n' ab=some az∧g.le n∧Env a' 86 (sl e [1] [(3,i_ ab.1),(4,i_ ab.2)])∧Inv p g [] n L w') _ ⟨_,g,l,rf,c.kp j,d⟩ ?_)
  rintro ap a w ⟨ab,n,l,am,c,d⟩;rcases ap with _ | ap
  · cases l
  obtain ⟨c5,f,l⟩:=Wh l;unfold law07_WeighSchema.b0 at f;refine S (S ?_);obtain ⟨ay,f,bn⟩:=bd f
  refine X c d (fun e L a' w'=>∃ s,n.le s∧Env a' 86 (sl e [1,3,4] [(30,.bool ay)])∧Inv p g [] s L w') ?_ ?_
  · refine G (R q 2 c j fun a c=>L d c j (B q 0 j j j j) j fun a c=>R q 3 c j fun a c=>?_)
    rcases Bo (decide (ab.2 < (a1.Tables.length:Int))) with z | z
    · replace f:=ct z f;have c:=c.tr (t:=27) j z;refine R q 3 c j fun a c=>E (T ?_);cases f;exact ⟨n,rf,c.kp j,d⟩
    replace f:=cf z f;have c:=c.tr (t:=27) j z;refine R q 3 c j fun a c=>E (T ?_);cases f;exact ⟨n,rf,c.kp j,d⟩
  rintro a w ⟨s,an,c,d⟩;have f:=bn;refine T (Cc (b:=ay) c j (fun al=>?_) (fun al=>?_));rotate_left
  · replace f:=cf al f;refine Ex (Xe (Xe (Xh (T ?_))));cases f;obtain rfl:=Wb l;exact ⟨_,s,j,(am.t an),c.kp j,d⟩
  replace f:=ct al f;refine K (T (S (O (S (G (R q 1 c j fun a c=>L d c j (B q 0 j j j j) j fun a c=>R q 1 c j fun a c=>?_))))))
  obtain ⟨i,aw,f⟩:=bd f;obtain ⟨cm,c4,cs,bs,bo,bf⟩:=Sa (bb.m (am.t an)) (Go aw).1 (Go aw).2
  obtain ⟨cb,cv,cc,cw,cd,cx,rfl,av,a8,a9⟩:=TTable.inv.1 bo
  refine L d c j (I q bs j j j) j fun a c=>L d c j (Fg q bf 0 j j j j) j fun a c=>A d c j z_114 j j fun a w cn c d=>W q 0 d c j j j j j j j j j j fun a w c d=>E (T (S (Mx [0] [17] (.step 0 0 (.step 1 0 (.step 2 0 (.step 3 1 (.step 4 0 (.step 5 1 (.step 6 0 (.step 7 1 (.step 11 0 (.step 12 1 (.step 15 0 (.step 16 1 (.step 8 2 (.step 9 2 (.step 10 0 (.step 13 2 (.step 14 0 (.step 17 3 (.step 18 0 (.step 19 0 .nil)))))))))))))))))))) mixed (mixF_all (by kernel_rfl)) d (by decide) j fun w d hS=>H q 3 c j fun a c=>Dd hS c j j (Rw fun _=>(B q 0 j j j j)) j fun a c=>H q 1 c j fun a c=>Dd hS c j j (Rw fun _=>(B q 0 j j j j)) j fun a c=>H q 1 c j fun a c=>Dd hS c j j (Rw fun _=>(B q 0 j j j j)) j fun a c=>H q 1 c j fun a c=>Dd hS c j j (Rw fun _=>(B q 0 j j j j)) j fun a c=>H q 1 c j fun a c=>Dd hS c j j (Rw fun _=>(B q 0 j j j j)) j fun a c=>Df j (Bs ai_22 d c j j j j j fun a w co c d=>?_))))
  have bp:RL s 1 ([i.Name,i.Rows,i.Hide].map D.str) _:=(Rc (rep_str.2 j) j (Rc (rep_str.2 j) j (Rc (rep_str.2 j) j Rn)))
  refine De (d.sw [1] (by decide) j rf) fun hS=>Df j ?_;obtain ⟨b5,b2,f⟩:=bd f
  refine Cl (S:=fun _ L' u=>L'=[]∧u=i_ b5) cl_63 d c j j (by obtain ⟨cg,c1,d,ba⟩:=(d.front 0).giveR (xs:=([i.Name,i.Rows,i.Hide]).map D.str) (by simp) bp;exact ⟨_,(law07_weighNames.ok k) b2 d.pass0 ba⟩) (fun _ _ _ h=>h.2) j ?_
  intro a w d c;refine De (d.sw [1] (by decide) j rf) fun hS=>H q 1 c j fun a c=>Df j ?_;obtain ⟨dc,b3,f⟩:=bd f
  refine J cl_63 d c j j ((law07_weighNames.ok k) b3 d.pass0 a8) j ?_;rintro a w _ ch _ ⟨rfl,rfl⟩ aa d c
  refine De (d.sw [1] (by decide) j aa) fun hS=>H q 1 c j fun a c=>Dl j ?_;obtain ⟨dd,b4,f⟩:=bd f
  refine J cl_65 d c j j ((law07_weighAll.ok k) b4 d.pass0 (a9.m aa)) j ?_;rintro a w _ aj _ ⟨rfl,rfl⟩ ao d c
  refine Dn (H q 2 c j fun a c=>Dz (T (S (G (R q 1 c j fun a c=>E (T ?_))))));obtain ⟨a0,m,bh⟩:=bd f
  refine X c d (fun e L a' w'=>∃ au ad,a0 = .go au∧aj.le ad∧Env a' 86 (sl e [1,4] [(3,i_ au.1)])∧Inv p g [] ad [nt L 1,nt L 2] w') ?_ ?_;rotate_left
  · rintro a w ⟨au,ad,rfl,bv,c,d⟩;have f:=Lg bh;refine xB (T (G (R q 3 c j fun a c=>E (T ?_))));cases f
    exact ⟨ap,Nat.lt_succ_self _,_,ad,l,((((am.t an).t aa).t ao).t bv),c.kp j,(d.dropN 1 j)⟩
  
  refine O (Q c d (fun e L n' a' w'=>∃ ac o,whileL (law07_WeighSchema.b1 k i) n' ac=some a0∧aj.le o∧Env a' 86 (sl e [1,4,5] [(3,i_ ac.1),(6,i_ ac.2)])∧Inv p g [] o [nt L 1,nt L 2] w') _ ⟨_,aj,m,rf,c.kp j,(d.dropN 1 j)⟩ ?_)
  rintro aq a w ⟨ac,o,m,af,c,d⟩;rcases aq with _ | aq
  · cases m
  obtain ⟨c6,f,m⟩:=Wh m;unfold law07_WeighSchema.b1 at f;refine S (S ?_);obtain ⟨ax,f,bi⟩:=bd f
  refine X c d (fun e L a' w'=>∃ x,o.le x∧Env a' 86 (sl e [1,3,4,5,6] [(65,.bool ax)])∧Inv p g [] x L w') ?_ ?_
  · refine G (R q 2 c j fun a c=>L d c j (B q 0 j j j j) j fun a c=>R q 3 c j fun a c=>?_)
    rcases Bo (decide (ac.2 < (i.Cols.length:Int))) with y | y
    · replace f:=ct y f;have c:=c.tr (t:=62) j y;refine R q 3 c j fun a c=>E (T ?_);cases f;exact ⟨o,rf,c.kp j,d⟩
    replace f:=cf y f;have c:=c.tr (t:=62) j y;refine R q 3 c j fun a c=>E (T ?_);cases f;exact ⟨o,rf,c.kp j,d⟩
  rintro a w ⟨x,ae,c,d⟩;have f:=bi;refine T (Cc (b:=ax) c j (fun ak=>?_) (fun ak=>?_));rotate_left
  · replace f:=cf ak f;refine Ex (Xe (Xe (Xh (T ?_))));cases f;obtain rfl:=Wb m;exact ⟨_,x,j,(af.t ae),c.kp j,d⟩
  replace f:=ct ak f
  refine K (T (S (O (Mx [0] [13,14] (.step 0 0 (.step 1 0 (.step 2 1 (.step 3 0 (.step 4 0 (.step 5 0 (.step 6 1 (.step 7 0 (.step 8 1 (.step 9 0 (.step 10 0 (.step 11 0 (.step 12 1 (.step 13 3 (.step 14 3 (.step 15 0 (.step 16 0 .nil))))))))))))))))) mixed (mixF_all (by kernel_rfl)) d (by decide) j fun w d hS=>H q 2 c j fun a c=>Dd hS c j j (Rw fun _=>(B q 0 j j j j)) j fun a c=>H q 1 c j fun a c=>?_))))
  obtain ⟨ah,ag,f⟩:=bd f;obtain ⟨ci,c2,cs,bq,bj,bc⟩:=Sa (av.m (((aa.t ao).t af).t ae)) (Go ag).1 (Go ag).2
  obtain rfl:=TCol.inv.1 bj
  refine Dr c j j (I q bq j j j) j fun a c=>H q 1 c j fun a c=>Dd hS c j j (Rw fun _=>(Fg q bc 0 j j j j)) j fun a c=>H q 1 c j fun a c=>Dd hS c j j (Rw fun _=>(B q 0 j j j j)) j fun a c=>H q 1 c j fun a c=>?_
  obtain ⟨cj,c3,cs,br,bk,be⟩:=Sa (av.m (((aa.t ao).t af).t ae)) (Go ag).1 (Go ag).2;obtain rfl:=TCol.inv.1 bk
  refine Dr c j j (I q br j j j) j fun a c=>H q 1 c j fun a c=>Dd hS c j j (Rw fun _=>(Fg q be 3 j j j j)) j fun a c=>Dl j (Bs ai_22 d c j j j j j fun a w ck c d=>?_)
  have bl:RL x 1 ([ah.Name,ah.Level].map D.str) _:=(Rc (rep_str.2 j) j (Rc (rep_str.2 j) j Rn));refine Dn (Dl j ?_)
  obtain ⟨ce,bu,d,a3⟩:=(d.front 0).giveR (xs:=([ah.Name,ah.Level]).map D.str) (by simp) bl;obtain ⟨c7,bw,f⟩:=bd f
  refine J cl_63 d c j j ((law07_weighNames.ok k) bw d.pass0 a3) j ?_;rintro a w _ a2 _ ⟨rfl,rfl⟩ bt d c
  refine Dn (H q 2 c j fun a c=>Dz (xB (T (G (R q 3 c j fun a c=>E (T ?_))))));cases f
  exact ⟨aq,Nat.lt_succ_self _,_,a2,m,(((af.t ae).t bu).t bt),c.kp j,d⟩

theorem cl_18:Callable Tryz.prog 18:=⟨_,Tryz.func18,by kernel_rfl,by kernel_rfl⟩

def law08_Few.C (s:TSchema→Option Bool):Prop:=∀ {e r},s e=some r→∀ {c b d},Inv c b [] b [] c→(Rep b e.d d)→Calls Tryz.prog 18 #[.agg ⟨d⟩] c (Ret c b [] fun G' L' v=>L'=[]∧v = .bool r)

theorem law08_Few.ok (k:Nat):law08_Few.C (law08_Few k):=by
  intro ap r c ak h an d ag
  unfold law08_Few at c
  obtain ⟨m,y,p,z,s,aa,n,u,o,x,rfl,ad,ae,af,ab,ac⟩:=TSchema.inv.1 ag
  refine Ci 12 Tryz.func18 j j j fun a b=>?_
  refine S (G (s_box d b j j j j fun a w am b d=>R q 1 b j fun a b=>E (T (S ?_))));obtain ⟨aj,c,ah⟩:=bd c
  refine X b d (fun e L a' w'=>∃ g,h.le g∧Env a' 12 [(2,.bool aj)]∧Inv ak h [] g [] w') ?_ ?_;rotate_left
  · rintro a w ⟨g,ao,b,d⟩;have c:=ah;refine T (V ?_);cases c;refine N (v:=_) b j ⟨_,_,_,j,d.nil,j,j⟩
  refine G (L d b j (B q 0 j j j j) j fun a b=>?_);obtain ⟨al,ai,c⟩:=bd c
  refine J cl_37 d b j j ((law07_WeighSchema.ok k) ai d.pass0 (TSchema.inv.2 ⟨m,y,p,z,s,aa,n,u,o,x,j,ad,ae,af,ab,ac⟩)) j ?_;rintro a w _ i _ ⟨rfl,rfl⟩ l d b
  refine R q 2 b j fun a b=>?_;rcases Bo (decide (al≤(300:Int))) with f | f;rotate_left
  · replace c:=cf f c;have b:=b.tr (t:=6) j f;refine R q 6 b j fun a b=>E (T ?_);cases c;exact ⟨i,l,b.kp j,(d.dropN 1 j)⟩
  replace c:=ct f c;have b:=b.tr (t:=6) j f;refine R q 1 b j fun a b=>L d b j (B q 0 j j j j) j fun a b=>R q 4 b j fun a b=>E (T ?_);cases c
  exact ⟨i,l,b.kp j,(d.dropN 1 j)⟩

theorem cl_66:Callable Tryz.prog 66:=⟨_,Tryz.func66,by kernel_rfl,by kernel_rfl⟩

def slices_Clone_string_string.C (s:(List ByteArray)→Option (List ByteArray)):Prop:=∀ {d r},s d=some r→∀ {c b f h},Inv c b [] b [] c→(Sl b f h 1 (d.map D.str))→Calls Tryz.prog 66 #[.slice f d.length h] c (Ret c b [] fun G' L' v=>L'=[]∧∃ e g,v = .slice e r.length g∧Sl G' e g 1 (r.map D.str))

theorem slices_Clone_string_string.ok (k:Nat):slices_Clone_string_string.C (slices_Clone_string_string k):=by
  intro g r d ac l h z c e
  unfold slices_Clone_string_string at d
  refine Ci 8 Tryz.func66 j j j fun a b=>?_
  refine S (G (R q 1 b j fun a b=>E (T (S (S (G (R q 1 b j fun a b=>?_)))))));rcases h with _ | x
  · obtain rfl:=(e).nil0;have d:some []=some r:=d;cases d
    refine L c b j (f_slnil q j j j j) j fun a b=>E (T (Tr b j (S (G (R q 1 b j fun a b=>E (T (V (Xr (N (v:=_) b j ⟨_,_,_,j,c.nil,j,none,0,j,(Sn _ _ _ _ (Nat.zero_le _))⟩)))))))))
  refine L c b j (f_slnil q j j j j) j fun a b=>E (T (Fa b j (K (T (S (G (Bs ai_22 c b j j j j j fun a w y b c=>?_)))))))
  have o:RL l 1 (([]:List ByteArray).map D.str) []:=Rn;refine R q 1 b j fun a b=>?_;obtain ⟨_,t,d⟩:=bd d
  refine s_appG (f:=D.str) (xs:=([]:List ByteArray)) (ys:=g) ai_22 0 c b j j e j j (Ll t) j fun a w i m aa b s c=>?_;have p:=Ra o s
  refine R q 1 b j fun a b=>E (T ?_);obtain ⟨u,ab,c,n⟩:=(c.front 0).giveR (xs:=(([]:List ByteArray) ++ g).map D.str) (by simp) p;refine V ?_;cases d
  refine N (v:=_) b j ⟨_,_,_,j,c.nil,j,i,m,j,n⟩

theorem cl_67:Callable Tryz.prog 67:=⟨_,Tryz.func67,by kernel_rfl,by kernel_rfl⟩

def lattice_Lattice_named.C (s:Tlattice_Lattice→Option (Int × Tlattice_Lattice)):Prop:=∀ {b r},s b=some r→∀ {e c m g f h d u x i n p l o t},Inv e c m c [.blk g ([.slice f b.names_.length h,.map (some d),.slice i b.up_.length n,.slice l b.down_.length o] ++ (arCells .i64 256 b.join_ ++ (arCells .i64 256 b.meet_ ++ []))) 160,.map d u x,.row (.slice i b.up_.length n) 155 1 b.up_.length p,.row (.slice l b.down_.length o) 155 1 b.down_.length t] e→(Sl c f h 1 (b.names_.map D.str))→(RM c false D.str di b.at_ u.toList)→(RL c 1 (b.up_.map (D.int .u32)) p)→(RL c 1 (b.down_.map (D.int .u32)) t)→Calls Tryz.prog 67 #[(P g)] e (Ret e c m fun G' L' v=>∃ e0_1 c0_1 A0_2 c0_2 e0_2 A0_3 c0_3 e0_3,L'=[.blk g ([.slice f b.names_.length h,.map (some d),.slice A0_2 r.2.up_.length c0_2,.slice A0_3 r.2.down_.length c0_3] ++ (arCells .i64 256 b.join_ ++ (arCells .i64 256 b.meet_ ++ []))) 160,.map d e0_1 c0_1,.row (.slice A0_2 r.2.up_.length c0_2) 155 1 r.2.up_.length e0_2,.row (.slice A0_3 r.2.down_.length c0_3) 155 1 r.2.down_.length e0_3]∧v=i_ r.1∧RM G' false D.str di r.2.at_ e0_1.toList∧RL G' 1 (r.2.up_.map (D.int .u32)) e0_2∧RL G' 1 (r.2.down_.map (D.int .u32)) e0_3)

theorem lattice_Lattice_named.ok (k:Nat):lattice_Lattice_named.C (lattice_Lattice_named k):=by
  intro i r g a6 ad ax ay aw az ah bv br bh bl bs bi bm bt d a9 bx b1 b2
  unfold lattice_Lattice_named at g
  refine Ci 65 Tryz.func67 j j j fun a c=>?_
  
  refine S (G (R q 1 c j fun a c=>E (T (S (S (G (R q 3 c j fun a c=>L d c j (B q 0 j j j j) j fun a c=>R q 2 c j fun a c=>E (T ?_))))))))
  obtain ⟨bf,ab,ba⟩:=bd g
  refine X c d (fun e L a' w'=>∃ m ae ar a0 al an ap am ao aq,bf = .go m∧ad.le ae∧Env a' 65 []∧Inv a6 ad ax ae [.blk ay ([.slice aw i.names_.length az,.map (some ah),.slice al m.2.1.length an,.slice am m.2.2.length ao] ++ (arCells .i64 256 i.join_ ++ (arCells .i64 256 i.meet_ ++ []))) 160,.map ah ar a0,.row (.slice al m.2.1.length an) 155 1 m.2.1.length ap,.row (.slice am m.2.2.length ao) 155 1 m.2.2.length aq] w'∧RM ae false D.str di m.1 ar.toList∧RL ae 1 (m.2.1.map (D.int .u32)) ap∧RL ae 1 (m.2.2.map (D.int .u32)) aq) ?_ ?_
  rotate_left
  · rintro a w ⟨m,ae,ar,a0,al,an,ap,am,ao,aq,rfl,cn,c,d,bz,b3,b4⟩;have g:=Lg ba
    refine T (S (G (R q 1 c j fun a c=>E (T (V ?_)))));cases g
    refine N (v:=_) c j ⟨_,_,_,j,d,ar,a0,al,an,ap,am,ao,aq,j,j,bz,b3,b4⟩
  
  refine O (Q c d (fun e L n' a' w'=>∃ i284 n h l ag ai o s z p u aa,n'=List.length n∧i284≤i.names_.length∧i.names_.drop i284=n∧forL (lattice_Lattice_named.b0 k i) i284 n h=some bf∧ad.le l∧Env a' 65 (sl e [0,10,11] [(12,i_ (i284:Int))])∧Inv a6 ad ax l [.blk ay ([.slice aw i.names_.length az,.map (some ah),.slice o h.2.1.length s,.slice p h.2.2.length u] ++ (arCells .i64 256 i.join_ ++ (arCells .i64 256 i.meet_ ++ []))) 160,.map ah ag ai,.row (.slice o h.2.1.length s) 155 1 h.2.1.length z,.row (.slice p h.2.2.length u) 155 1 h.2.2.length aa] w'∧RM l false D.str di h.1 ag.toList∧RL l 1 (h.2.1.map (D.int .u32)) z∧RL l 1 (h.2.2.map (D.int .u32)) aa) _ ⟨0,_,_,ad,bv,br,bh,bl,bs,bi,bm,bt,j,Nat.zero_le _,j,ab,rf,c.kp j,d,bx,b1,b2⟩ ?_)
  rintro co a w ⟨i284,n,h,l,ag,ai,o,s,z,p,u,aa,rfl,cc,av,ab,a4,c,d,au,a1,a2⟩;rcases n with _ | ⟨bg,n⟩
  · obtain rfl:=Fn ab;have a5:=Do av cc;refine S (G (R q 1 c j fun a c=>E (T (S ?_))));have c:=c.tr (t:=13) j (decide_eq_false (by omega))
    refine Fa c j (Ex (Xe (Xe (Xh (T (⟨_,l,ag,ai,o,s,z,p,u,aa,j,a4,c.kp j,d,au,a1,a2⟩))))))
  obtain ⟨cq,g,ab⟩:=Fs ab;obtain ⟨ch,av,a5⟩:=Dc av;unfold lattice_Lattice_named.b0 at g;refine S (G (R q 1 c j fun a c=>E (T (S ?_))))
  have c:=c.tr (t:=13) j (decide_eq_true (by omega));refine Tr c j (K (T (S (O (S (G (R q 1 c j fun a c=>?_)))))))
  obtain ⟨ck,cp,cs,b9,b5,bw⟩:=Sa (a9.m a4) (Int.natCast_nonneg _) (natIdx ch);obtain rfl:=rep_str.1 b5
  refine L d c j (I q b9 j j j) j fun a c=>L d c j (Fg q bw 0 j j j j) j fun a c=>R q 2 c j fun a c=>E (T (S (S (G (R q 3 c j fun a c=>L d c j (B q 0 j j j j) j fun a c=>R q 1 c j fun a c=>?_)))))
  obtain ⟨bn,u300,cd,cg,ce⟩:=f_lookM key_str 1 j au um_109 uk_9 true c (L:=[.blk ay ([.slice aw i.names_.length az,.map (some ah),.slice o h.2.1.length s,.slice p h.2.2.length u] ++ (arCells .i64 256 i.join_ ++ (arCells .i64 256 i.meet_ ++ []))) 160,.map ah ag ai,.row (.slice o h.2.1.length s) 155 1 h.2.1.length z,.row (.slice p h.2.2.length u) 155 1 h.2.2.length aa]) (x:=.tmp 21) (y:=.tmp 22) j j z_3 (rep_int.2 j) j
  obtain rfl:bn=[u300]:=cg;obtain rfl:=rep1_int.1 cd;refine L d c j (ce _ _ _) j fun a c=>R q 5 c j fun a c=>E (T (S ?_));obtain ⟨be,g,b6⟩:=bd g
  refine X c d (fun e L a' w'=>∃ af,l.le af∧Env a' 65 (sl e [0,3,4,10,11,12] [(35,.bool be)])∧Inv a6 ad ax af L w') ?_ ?_
  · refine G (R q 2 c j fun a c=>?_);rcases Bo ((mget h.1 bg).isSome) with aj | aj
    · replace g:=ct aj g;have c:=c.tr (t:=27) j aj;refine R q 8 c j fun a c=>E (T ?_);cases g;exact ⟨l,rf,c.kp j,d⟩
    replace g:=cf aj g;have c:=c.tr (t:=27) j aj;refine R q 4 c j fun a c=>?_;rcases Bo (decide (bg=(⟨#[]⟩:ByteArray))) with ak | ak
    · replace g:=ct ak g;have c:=c.tr (t:=31) j ak;refine R q 4 c j fun a c=>E (T ?_);cases g;exact ⟨l,rf,c.kp j,d⟩
    replace g:=cf ak g;have c:=c.tr (t:=31) j ak;refine R q 4 c j fun a c=>E (T ?_);cases g;exact ⟨l,rf,c.kp j,d⟩
  rintro a w ⟨af,ac,c,d⟩;have g:=b6;refine T (Cc (b:=be) c j (fun a3=>?_) (fun a3=>?_))
  · replace g:=ct a3 g;refine S (G (R q 1 c j fun a c=>E (T (V (Xr (Xb (Xr (Xr (Xb (Xr (Xr ?_)))))))))));cases g;obtain rfl:=Nr ab;have g:=Le ba;cases g
    refine N (v:=_) c j ⟨_,_,_,j,d,ag,ai,o,s,z,p,u,aa,j,j,(au.m ac),(a1.m ac),(a2.m ac)⟩
  replace g:=cf a3 g
  refine K (T (S (G (R q 3 c j fun a c=>L d c j (B q 0 j j j j) j fun a c=>R q 2 c j fun a c=>s_mapUpd (v:=(i284:Int)) key_str 1 d c j j (au.m ac) um_109 uk_9 j j j (rep_int.2 j) j fun a w bu bq c b0 d=>E (T (S (Mx [0] [8,11] (.step 0 0 (.step 1 0 (.step 2 0 (.step 3 0 (.step 4 1 (.step 5 0 (.step 6 0 (.step 7 2 (.step 8 3 (.step 9 0 (.step 10 0 (.step 11 3 .nil)))))))))))) mixed (mixF_all (by kernel_rfl)) d (by decide) j fun w d hS=>H q 4 c j fun a c=>Dd hS c j j (Rw fun _=>(B q 0 j j j j)) j fun a c=>H q 1 c j fun a c=>?_)))))))
  obtain ⟨a7,ci,g⟩:=bd g;refine Dr c j j (f_shl j j ci) j fun a c=>Df j (Bs ai_156 d c j j j j j fun a w cl c d=>?_)
  have bb:RL af 1 ([a7].map (D.int .u32)) _:=(Rc (rep_int.2 j) j Rn);refine De (d.sw [1] (by decide) j rf) fun hS=>Dl j ?_;obtain ⟨_,ca,g⟩:=bd g
  refine Ao (f:=(D.int .u32)) (xs:=h.2.1) (ys:=[a7]) ai_156 3 0 d c j j j bb j j (Ll ca) j fun a w bj bo c d=>?_;have b7:=Ra (a1.m ac) bb
  refine Dn (H q 2 c j fun a c=>Dl j (W q 1 d c j j j j j j j j j j fun a w c d=>Dn (Dz (T (Mx [1] [8,11] (.step 0 0 (.step 1 0 (.step 2 0 (.step 3 0 (.step 4 1 (.step 5 0 (.step 6 0 (.step 7 2 (.step 8 3 (.step 9 0 (.step 10 0 (.step 11 3 .nil)))))))))))) mixed (mixF_all (by kernel_rfl)) d (by decide) j fun w d hS=>H q 4 c j fun a c=>Dd hS c j j (Rw fun _=>(B q 0 j j j j)) j fun a c=>H q 1 c j fun a c=>?_)))))
  obtain ⟨a8,cj,g⟩:=bd g;refine Dr c j j (f_shl j j cj) j fun a c=>Df j (Bs ai_156 d c j j j j j fun a w cm c d=>?_)
  have bc:RL af 1 ([a8].map (D.int .u32)) _:=(Rc (rep_int.2 j) j Rn);refine De (d.sw [2] (by decide) j rf) fun hS=>Dl j ?_;obtain ⟨_,cb,g⟩:=bd g
  refine Ao (f:=(D.int .u32)) (xs:=h.2.2) (ys:=[a8]) ai_156 5 0 d c j j j bc j j (Ll cb) j fun a w bk bp c d=>?_;have b8:=Ra (a2.m ac) bc
  refine Dn (H q 2 c j fun a c=>Dl j (W q 2 d c j j j j j j j j j j fun a w c d=>Dn (Dz (xB (T (G (R q 2 c j fun a c=>E (T ?_))))))))
  cases g;have c:=c.setI (t:=12) j (Wc a5 (Ln a9))
  exact ⟨n.length,Nat.lt_succ_self _,i284 + 1,n,_,af,bu,bq,bj,bo,(z ++ [.int .u32 a7]),bk,bp,(aa ++ [.int .u32 a8]),j,a5,av,ab,(a4.t ac),c.kp j,(d.dropN 2 j),b0,b7,b8⟩

theorem cl_62:Callable Tryz.prog 62:=⟨_,Tryz.func62,by kernel_rfl,by kernel_rfl⟩

def lattice_set_has.C (s:Int→Int→Option Bool):Prop:=∀ {d e r},s d e=some r→∀ {b c },Inv b c [] c [] b→Calls Tryz.prog 62 #[.int .u32 d,i_ e] b (Ret b c [] fun G' L' v=>L'=[]∧v = .bool r)

theorem lattice_set_has.ok (k:Nat):lattice_set_has.C (lattice_set_has k):=by
  intro g h r c i f  d
  unfold lattice_set_has at c
  refine Ci 10 Tryz.func62 j j j fun a b=>?_
  refine S (G (R q 1 b j fun a b=>E (T (S (G (R q 2 b j fun a b=>?_))))));obtain ⟨l,e,c⟩:=bd c
  refine L d b j (f_shr j j e) j fun a b=>R q 3 b j fun a b=>E (T (V ?_));cases c;refine N (v:=_) b j ⟨_,_,_,j,d.nil,j,j⟩

theorem cl_68:Callable Tryz.prog 68:=⟨_,Tryz.func68,by kernel_rfl,by kernel_rfl⟩

def lattice_Lattice_edges.C (s:Tlattice_Lattice→(List TPair)→Option (Int × Tlattice_Lattice)):Prop:=∀ {b g r},s b g=some r→∀ {d c m f u2 e l p u h n t i o},Inv d c m c [.blk f ([u2,.map e,.slice l b.up_.length p,.slice h b.down_.length n] ++ (arCells .i64 256 b.join_ ++ (arCells .i64 256 b.meet_ ++ []))) 160,.row (.slice l b.up_.length p) 155 1 b.up_.length u,.row (.slice h b.down_.length n) 155 1 b.down_.length t] d→(Mp c e false D.str di b.at_)→(RL c 1 (b.up_.map (D.int .u32)) u)→(RL c 1 (b.down_.map (D.int .u32)) t)→(Sl c i o 2 (g.map TPair.d))→Calls Tryz.prog 68 #[(P f),.slice i g.length o] d (Ret d c m fun G' L' v=>∃ A0_2 c0_2 e0_2 A0_3 c0_3 e0_3,L'=[.blk f ([u2,.map e,.slice A0_2 r.2.up_.length c0_2,.slice A0_3 r.2.down_.length c0_3] ++ (arCells .i64 256 b.join_ ++ (arCells .i64 256 b.meet_ ++ []))) 160,.row (.slice A0_2 r.2.up_.length c0_2) 155 1 r.2.up_.length e0_2,.row (.slice A0_3 r.2.down_.length c0_3) 155 1 r.2.down_.length e0_3]∧v=i_ r.1∧RL G' 1 (r.2.up_.map (D.int .u32)) e0_2∧RL G' 1 (r.2.down_.map (D.int .u32)) e0_3)
end Go.Proofs.YtknhbphhdfknaaaGreatDoor
