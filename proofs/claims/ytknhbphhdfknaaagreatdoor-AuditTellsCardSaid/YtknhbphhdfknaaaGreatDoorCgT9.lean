/- The contracts: what the machine does at a call is what the plain function says. Written by mk.py. -/
import Derived.Test.YtknhbphhdfknaaaGreatDoorCgT6
import Derived.Test.YtknhbphhdfknaaaGreatDoorCgT7
import Derived.Test.YtknhbphhdfknaaaGreatDoorCgT8
set_option linter.unusedVariables false
set_option linter.unusedSimpArgs false
set_option maxRecDepth 100000
namespace Go.Proofs.YtknhbphhdfknaaaGreatDoor
open Go.RowKit
theorem ref08_Catalog_table.ok (k:Nat):ref08_Catalog_table.C (ref08_Catalog_table k):=by
  intro ak y r g ah ac ag b2 bx ad ae am bv b3 bw b4 k0 d bh af b8 b9 h8
  unfold ref08_Catalog_table at g
  obtain ⟨c7,db,c8,dc,cm,cr,rfl,an,a3,bg⟩:=TTable.inv.1 h8
  refine Ci 273 Tryz.func42 j j j fun a c=>?_
  
  refine S (G (s_box d c j j j j fun a w kx c d=>A d c j z_43 j j fun a w ky c d=>R q 1 c j fun a c=>E (T (S (G (R q 1 c j fun a c=>L d c j (B q 1 j j j j) j fun a c=>L d c j (Bd q j z_43 j j) j fun a c=>A d c j z_43 j j fun a w cq c d=>W q 0 d c j j j j j j j j j j fun a w c d=>E (T (S (S ?_)))))))))
  obtain ⟨e8,g,ia⟩:=bd g;refine X c d (fun e L a' w'=>∃ bp,ac.le bp∧Env a' 273 (sl e [0,3,4,6] [(27,.bool e8)])∧Inv ah ac ag bp L w') ?_ ?_
  · refine G (R q 1 c j fun a c=>L d c j (B q 2 j j j j) j fun a c=>R q 3 c j fun a c=>?_)
    rcases Bo (decide ((y.Cols.length:Int)=(0:Int))) with ci | ci
    · replace g:=ct ci g;have c:=c.tr (t:=22) j ci;refine R q 5 c j fun a c=>E (T ?_);cases g;exact ⟨ac,rf,c.kp j,d⟩
    replace g:=cf ci g;have c:=c.tr (t:=22) j ci;refine R q 1 c j fun a c=>L d c j (B q 2 j j j j) j fun a c=>R q 3 c j fun a c=>E (T ?_)
    cases g;exact ⟨ac,rf,c.kp j,d⟩
  rintro a w ⟨bp,i,c,d⟩;have g:=ia;refine T (Cc (b:=e8) c j (fun du=>?_) (fun du=>?_))
  · replace g:=ct du g
    refine S (G (L d c j (B q 0 j j j j) j fun a c=>W q 1 d c j j j j j j j j j j fun a w c d=>R q 1 c j fun a c=>E (T (V (Xr ?_)))))
    cases g
    refine U q c d (.cell 1 j j j j (.tmp j .nil)) j ⟨_,_,_,j,(d.pick [3,4] (by decide) j),_,ad,ae,am,j,j,((TRelation.inv (x:=(TRelation.mk y.Name (0:Int) [] [] (-1:Int) []))).2 ⟨none,0,none,0,none,0,j,(Sn _ _ _ _ (Nat.zero_le _)),(Sn _ _ _ _ (Nat.zero_le _)),(Sn _ _ _ _ (Nat.zero_le _))⟩),(af.m i)⟩
  replace g:=cf du g;refine K (T (S (S ?_)));obtain ⟨e9,g,ic⟩:=bd g
  refine X c d (fun e L a' w'=>∃ bq,bp.le bq∧Env a' 273 (sl e [0,3,4,6] [(38,.bool e9)])∧Inv ah ac ag bq L w') ?_ ?_
  · refine G (R q 1 c j fun a c=>L d c j (B q 2 j j j j) j fun a c=>R q 2 c j fun a c=>?_)
    rcases Bo (decide (y.Name=(⟨#[]⟩:ByteArray))) with ch | ch
    · replace g:=ct ch g;have c:=c.tr (t:=32) j ch;refine R q 6 c j fun a c=>E (T ?_);cases g;exact ⟨bp,rf,c.kp j,d⟩
    replace g:=cf ch g;have c:=c.tr (t:=32) j ch;refine R q 2 c j fun a c=>L d c j (B q 2 j j j j) j fun a c=>?_;obtain ⟨jt,ji,g⟩:=bd g
    refine Cl (S:=fun _ L' u=>L'=[]∧u=i_ jt) cl_83 d c j j (by obtain ⟨kd,dy,d,gz⟩:=(d.front 4).giveR (xs:=ak.Tables.map TRelation.d) (by simp) (af.m i);obtain ⟨fx,c2,d,hm⟩:=(d.front 3).giveB;have g0:Pt fx (p_ b2) 36 Tref08_Catalog.d (some ak):=Pm (Tref08_Catalog.inv.2 ⟨bx,ad,ae,bv,b3,bw,b4,j,(bh.m ((i.t dy).t c2)),(gz.m c2),(b8.m ((i.t dy).t c2)),(b9.m ((i.t dy).t c2))⟩) hm;exact ⟨_,(ref08_Catalog_Table.ok k) ji d.pass0 g0⟩) (fun _ _ _ h=>h.2) j ?_
    intro a w d c;refine R q 2 c j fun a c=>E (T ?_);cases g;exact ⟨bp,rf,c.kp j,d⟩
  rintro a w ⟨bq,l,c,d⟩;have g:=ic;refine T (Cc (b:=e9) c j (fun dt=>?_) (fun dt=>?_))
  · replace g:=ct dt g
    refine S (G (L d c j (B q 0 j j j j) j fun a c=>W q 1 d c j j j j j j j j j j fun a w c d=>R q 1 c j fun a c=>E (T (V (Xr ?_)))))
    cases g
    refine U q c d (.cell 1 j j j j (.tmp j .nil)) j ⟨_,_,_,j,(d.pick [3,4] (by decide) j),_,ad,ae,am,j,j,((TRelation.inv (x:=(TRelation.mk y.Name (0:Int) [] [] (-1:Int) []))).2 ⟨none,0,none,0,none,0,j,(Sn _ _ _ _ (Nat.zero_le _)),(Sn _ _ _ _ (Nat.zero_le _)),(Sn _ _ _ _ (Nat.zero_le _))⟩),(af.m (i.t l))⟩
  replace g:=cf dt g;refine K (T (S (S (G (R q 1 c j fun a c=>E (T ?_))))));obtain ⟨fb,bi,eb⟩:=bd g
  refine X c d (fun e L a' w'=>∃ fh bo,fb = .go fh∧bq.le bo∧Env a' 273 (sl e [0,3,4,6] [])∧Inv ah ac ag bo L w') ?_ ?_
  ·
    refine O (Q c d (fun e L n' a' w'=>∃ i1576 a9 fg bb,n'=List.length a9∧i1576≤y.Cols.length∧y.Cols.drop i1576=a9∧forL (ref08_Catalog_table.b4 k y ak) i1576 a9 fg=some fb∧bq.le bb∧Env a' 273 (sl e [0,3,4,6] [(7,i_ (i1576:Int))])∧Inv ah ac ag bb L w') _ ⟨0,_,_,bq,j,Nat.zero_le _,j,bi,rf,c.kp j,d⟩ ?_)
    rintro la a w ⟨i1576,a9,fg,bb,rfl,i1,cz,bi,bu,c,d⟩;rcases a9 with _ | ⟨jo,a9⟩
    · obtain rfl:=Fn bi;have d5:=Do cz i1
      refine S (S (G (R q 2 c j fun a c=>L d c j (B q 2 j j j j) j fun a c=>R q 2 c j fun a c=>E (T ?_))))
      have c:=c.tr (t:=44) j (decide_eq_false (by omega));refine Fa c j (Ex (Xe (Xe (Xh (T (⟨_,bb,j,bu,c.kp j,d⟩))))))
    obtain ⟨ls,g,bi⟩:=Fs bi;obtain ⟨e2,cz,d5⟩:=Dc cz;unfold ref08_Catalog_table.b4 at g
    refine S (S (G (R q 2 c j fun a c=>L d c j (B q 2 j j j j) j fun a c=>R q 2 c j fun a c=>E (T ?_))))
    have c:=c.tr (t:=44) j (decide_eq_true (by omega));refine Tr c j (K (T (S (O (S ?_)))));obtain ⟨e7,g,h5⟩:=bd g
    refine X c d (fun e L a' w'=>∃ cp,bb.le cp∧Env a' 273 (sl e [0,3,4,6,7] [(66,.bool e7)])∧Inv ah ac ag cp L w') ?_ ?_;rotate_left
    · rintro a w ⟨cp,ey,c,d⟩;have g:=h5;refine T (Cc (b:=e7) c j (fun ds=>?_) (fun ds=>?_));rotate_left
      · replace g:=cf ds g;refine K (xB (T (G (R q 3 c j fun a c=>E (T ?_)))));cases g;have c:=c.setI (t:=7) j (Wc d5 (Ln an))
        exact ⟨a9.length,Nat.lt_succ_self _,i1576 + 1,a9,_,cp,j,d5,cz,bi,(bu.t ey),c.kp j,d⟩
      replace g:=ct ds g
      refine S (G (L d c j (B q 0 j j j j) j fun a c=>W q 1 d c j j j j j j j j j j fun a w c d=>R q 1 c j fun a c=>E (T (V (Xb (Xr (Xr (Xb (Xr (Xr ?_))))))))))
      cases g;obtain rfl:=Nr bi;have g:=Le eb;cases g
      refine U q c d (.cell 1 j j j j (.tmp j .nil)) j ⟨_,_,_,j,(d.pick [3,4] (by decide) j),_,ad,ae,am,j,j,((TRelation.inv (x:=(TRelation.mk y.Name (0:Int) [] [] (-1:Int) []))).2 ⟨none,0,none,0,none,0,j,(Sn _ _ _ _ (Nat.zero_le _)),(Sn _ _ _ _ (Nat.zero_le _)),(Sn _ _ _ _ (Nat.zero_le _))⟩),(af.m (((i.t l).t bu).t ey))⟩
    refine Cd mixed (by kernel_rfl) d (Y q 1 c j fun a c=>Z c j (B q 2 j j j j) j fun a c=>Y q 1 c j fun a c=>?_)
    obtain ⟨kv,ll,cs,ir,h6,hk⟩:=Sa (an.m ((i.t l).t bu)) (Int.natCast_nonneg _) (natIdx e2);obtain rfl:=TCol.inv.1 h6
    refine Z c j (I q ir j j j) j fun a c=>Y q 1 c j fun a c=>Z c j (Fg q hk 0 j j j j) j fun a c=>Y q 2 c j fun a c=>?_
    rcases Bo (decide (jo.Name=(⟨#[]⟩:ByteArray))) with cg | cg
    · replace g:=ct cg g;have c:=c.tr (t:=54) j cg;refine Y q 12 c j fun a c=>Qe ?_;intro w d;refine T ?_;cases g;exact ⟨bb,rf,c.kp j,d⟩
    replace g:=cf cg g;have c:=c.tr (t:=54) j cg
    refine Y q 1 c j fun a c=>Z c j (B q 2 j j j j) j fun a c=>Y q 1 c j fun a c=>Z c j (B q 2 j j j j) j fun a c=>Y q 1 c j fun a c=>?_
    obtain ⟨kw,lm,cs,it,h7,hl⟩:=Sa (an.m ((i.t l).t bu)) (Int.natCast_nonneg _) (natIdx e2);obtain rfl:=TCol.inv.1 h7
    refine Z c j (I q it j j j) j fun a c=>Y q 1 c j fun a c=>Z c j (Fg q hl 0 j j j j) j fun a c=>?_;obtain ⟨l3,jh,g⟩:=bd g
    refine Qc cl_84 c j j (fun w d=>(ref08_Col.ok k) jh d.pass0 (an.m ((i.t l).t bu))) (fun _ _ _ h=>h.2) j fun a c=>Y q 3 c j fun a c=>Qe ?_;intro w d
    refine T ?_;cases g;exact ⟨bb,rf,c.kp j,d⟩
  rintro a w ⟨fh,bo,rfl,m,c,d⟩;have g:=Lg eb;refine T (S (S (G (R q 1 c j fun a c=>E (T ?_)))));obtain ⟨fc,bj,ec⟩:=bd g
  refine X c d (fun e L a' w'=>∃ fj be,fc = .go fj∧bo.le be∧Env a' 273 (sl e [0,3,4,6] [])∧Inv ah ac ag be L w') ?_ ?_
  ·
    refine O (Q c d (fun e L n' a' w'=>∃ i1516 a8 fi bc,n'=List.length a8∧i1516≤y.Cols.length∧y.Cols.drop i1516=a8∧forL (ref08_Catalog_table.b3 k y ak) i1516 a8 fi=some fc∧bo.le bc∧Env a' 273 (sl e [0,3,4,6] [(8,i_ (i1516:Int))])∧Inv ah ac ag bc L w') _ ⟨0,_,_,bo,j,Nat.zero_le _,j,bj,rf,c.kp j,d⟩ ?_)
    rintro k9 a w ⟨i1516,a8,fi,bc,rfl,i0,cy,bj,cj,c,d⟩;rcases a8 with _ | ⟨jn,a8⟩
    · obtain rfl:=Fn bj;have d4:=Do cy i0
      refine S (S (G (R q 2 c j fun a c=>L d c j (B q 2 j j j j) j fun a c=>R q 2 c j fun a c=>E (T ?_))))
      have c:=c.tr (t:=72) j (decide_eq_false (by omega));refine Fa c j (Ex (Xe (Xe (Xh (T (⟨_,bc,j,cj,c.kp j,d⟩))))))
    obtain ⟨lr,g,bj⟩:=Fs bj;obtain ⟨e1,cy,d4⟩:=Dc cy;unfold ref08_Catalog_table.b3 at g
    refine S (S (G (R q 2 c j fun a c=>L d c j (B q 2 j j j j) j fun a c=>R q 2 c j fun a c=>E (T ?_))))
    have c:=c.tr (t:=72) j (decide_eq_true (by omega));refine Tr c j (K (T (S (O (S ?_)))));obtain ⟨e6,g,h2⟩:=bd g
    refine X c d (fun e L a' w'=>∃ co,bc.le co∧Env a' 273 (sl e [0,3,4,6,8] [(90,.bool e6)])∧Inv ah ac ag co L w') ?_ ?_;rotate_left
    · rintro a w ⟨co,ex,c,d⟩;have g:=h2;refine T (Cc (b:=e6) c j (fun dr=>?_) (fun dr=>?_));rotate_left
      · replace g:=cf dr g;refine K (xB (T (G (R q 3 c j fun a c=>E (T ?_)))));cases g;have c:=c.setI (t:=8) j (Wc d4 (Ln an))
        exact ⟨a8.length,Nat.lt_succ_self _,i1516 + 1,a8,_,co,j,d4,cy,bj,(cj.t ex),c.kp j,d⟩
      replace g:=ct dr g
      refine S (G (L d c j (B q 0 j j j j) j fun a c=>W q 1 d c j j j j j j j j j j fun a w c d=>R q 1 c j fun a c=>E (T (V (Xb (Xr (Xr (Xb (Xr (Xr ?_))))))))))
      cases g;obtain rfl:=Nr bj;have g:=Le ec;cases g
      refine U q c d (.cell 1 j j j j (.tmp j .nil)) j ⟨_,_,_,j,(d.pick [3,4] (by decide) j),_,ad,ae,am,j,j,((TRelation.inv (x:=(TRelation.mk y.Name (0:Int) [] [] (-1:Int) []))).2 ⟨none,0,none,0,none,0,j,(Sn _ _ _ _ (Nat.zero_le _)),(Sn _ _ _ _ (Nat.zero_le _)),(Sn _ _ _ _ (Nat.zero_le _))⟩),(af.m ((((i.t l).t m).t cj).t ex))⟩
    refine G (R q 1 c j fun a c=>L d c j (B q 2 j j j j) j fun a c=>R q 1 c j fun a c=>?_)
    obtain ⟨kt,lj,cs,ip,h3,hh⟩:=Sa (an.m (((i.t l).t m).t cj)) (Int.natCast_nonneg _) (natIdx e1);obtain rfl:=TCol.inv.1 h3
    refine L d c j (I q ip j j j) j fun a c=>R q 1 c j fun a c=>L d c j (Fg q hh 1 j j j j) j fun a c=>R q 2 c j fun a c=>?_
    rcases Bo (decide (jn.Type_ < (1:Int))) with ce | ce
    · replace g:=ct ce g;have c:=c.tr (t:=82) j ce;refine R q 8 c j fun a c=>E (T ?_);cases g;exact ⟨bc,rf,c.kp j,d⟩
    replace g:=cf ce g;have c:=c.tr (t:=82) j ce;refine R q 1 c j fun a c=>L d c j (B q 2 j j j j) j fun a c=>R q 1 c j fun a c=>?_
    obtain ⟨ku,lk,cs,iq,h4,hj⟩:=Sa (an.m (((i.t l).t m).t cj)) (Int.natCast_nonneg _) (natIdx e1);obtain rfl:=TCol.inv.1 h4
    refine L d c j (I q iq j j j) j fun a c=>R q 1 c j fun a c=>L d c j (Fg q hj 1 j j j j) j fun a c=>R q 2 c j fun a c=>E (T ?_)
    cases g;exact ⟨bc,rf,c.kp j,d⟩
  rintro a w ⟨fj,be,rfl,n,c,d⟩;have g:=Lg ec;refine T (S (G (R q 2 c j fun a c=>L d c j (B q 2 j j j j) j fun a c=>?_)))
  obtain ⟨ai,jj,g⟩:=bd g
  refine Cl (S:=fun _ L' u=>L'=[]∧u=i_ ai) cl_85 d c j j (by obtain ⟨ke,dz,d,g1⟩:=(d.front 4).giveR (xs:=ak.Tables.map TRelation.d) (by simp) (af.m (((i.t l).t m).t n));obtain ⟨fy,c3,d,hn⟩:=(d.front 3).giveB;have g2:Pt fy (p_ b2) 36 Tref08_Catalog.d (some ak):=Pm (Tref08_Catalog.inv.2 ⟨bx,ad,ae,bv,b3,bw,b4,j,(bh.m (((((i.t l).t m).t n).t dz).t c3)),(g1.m c3),(b8.m (((((i.t l).t m).t n).t dz).t c3)),(b9.m (((((i.t l).t m).t n).t dz).t c3))⟩) hn;exact ⟨_,(ref08_Catalog_level.ok k) jj d.pass0 g2⟩) (fun _ _ _ h=>h.2) j ?_
  intro a w d c
  refine R q 1 c j fun a c=>W q 0 d c j j j j j j j j j j fun a w c d=>E (T (S (G (R q 1 c j fun a c=>L d c j (B q 0 j j j j) j fun a c=>R q 2 c j fun a c=>E (T (S (S (G (R q 1 c j fun a c=>E (T ?_))))))))))
  have d:=d.nilrow 52 4;have h9:RL be 4 (([]:List TField).map TField.d) []:=Rn;obtain ⟨fd,bt,hp⟩:=bd g
  refine X c d (fun e L a' w'=>∃ z a1 al aj dd,fd = .go z∧be.le a1∧Env a' 273 (sl e [0,3,4,6] [(9,.bool z.2)])∧Inv ah ac ag a1 [.row (.slice al z.1.length aj) 52 4 z.1.length dd,.blk cq [.string y.Name,i_ ai,.slice al z.1.length aj,.slice none 0 0,i_ (-1:Int),.slice none 0 0] 43,nt L 2,nt L 3,nt L 4,nt L 5] w'∧RL a1 4 (z.1.map TField.d) dd) ?_ ?_
  ·
    refine O (Q c d (fun e L n' a' w'=>∃ i1450 a7 ax a0 cn cu b6,n'=List.length a7∧i1450≤y.Cols.length∧y.Cols.drop i1450=a7∧forL (ref08_Catalog_table.b2 k ak) i1450 a7 ax=some fd∧be.le a0∧Env a' 273 (sl e [0,3,4,6] [(10,i_ (i1450:Int)),(9,.bool ax.2)])∧Inv ah ac ag a0 [.row (.slice cn ax.1.length cu) 52 4 ax.1.length b6,.blk cq [.string y.Name,i_ ai,.slice cn ax.1.length cu,.slice none 0 0,i_ (-1:Int),.slice none 0 0] 43,nt L 2,nt L 3,nt L 4,nt L 5] w'∧RL a0 4 (ax.1.map TField.d) b6) _ ⟨0,_,_,be,none,0,[],j,Nat.zero_le _,j,bt,rf,c.kp j,d,h9⟩ ?_)
    rintro k8 a w ⟨i1450,a7,ax,a0,cn,cu,b6,rfl,iz,cx,bt,bn,c,d,eh⟩;rcases a7 with _ | ⟨az,a7⟩
    · obtain rfl:=Fn bt;have d3:=Do cx iz
      refine S (S (G (R q 2 c j fun a c=>L d c j (B q 3 j j j j) j fun a c=>R q 2 c j fun a c=>E (T ?_))))
      have c:=c.tr (t:=104) j (decide_eq_false (by omega));refine Fa c j (Ex (Xe (Xe (Xh (T (⟨_,a0,cn,cu,b6,j,bn,c.kp j,d,eh⟩))))))
    obtain ⟨lq,g,bt⟩:=Fs bt;obtain ⟨i6,cx,d3⟩:=Dc cx;unfold ref08_Catalog_table.b2 at g
    refine S (S (G (R q 2 c j fun a c=>L d c j (B q 3 j j j j) j fun a c=>R q 2 c j fun a c=>E (T ?_))))
    have c:=c.tr (t:=104) j (decide_eq_true (by omega))
    refine Tr c j (K (T (S (O (S (G (R q 1 c j fun a c=>L d c j (B q 3 j j j j) j fun a c=>R q 1 c j fun a c=>?_)))))))
    obtain ⟨kq,li,cs,im,hz,hf⟩:=Sa (an.m ((((i.t l).t m).t n).t bn)) (Int.natCast_nonneg _) (natIdx i6);obtain rfl:=TCol.inv.1 hz
    refine L d c j (I q im j j j) j fun a c=>L d c j (Fg q hf 0 j j j j) j fun a c=>A d c j z_165 j j fun a w kr c d=>W q 0 d c j j j j j j j j j j fun a w c d=>E (T (S (G (R q 2 c j fun a c=>L d c j (B q 0 j j j j) j fun a c=>?_))))
    obtain ⟨c6,jg,g⟩:=bd g
    refine Cl (S:=fun _ L' u=>L'=[]∧u=i_ c6) cl_85 d c j j (by obtain ⟨kc,dx,d,gx⟩:=(d.front 6).giveR (xs:=ak.Tables.map TRelation.d) (by simp) (af.m ((((i.t l).t m).t n).t bn));obtain ⟨fw,c1,d,hg⟩:=(d.front 5).giveB;have gy:Pt fw (p_ b2) 36 Tref08_Catalog.d (some ak):=Pm (Tref08_Catalog.inv.2 ⟨bx,ad,ae,bv,b3,bw,b4,j,(bh.m ((((((i.t l).t m).t n).t bn).t dx).t c1)),(gx.m c1),(b8.m ((((((i.t l).t m).t n).t bn).t dx).t c1)),(b9.m ((((((i.t l).t m).t n).t bn).t dx).t c1))⟩) hg;exact ⟨_,(ref08_Catalog_level.ok k) jg d.pass0 gy⟩) (fun _ _ _ h=>h.2) j ?_
    intro a w d c;refine R q 1 c j fun a c=>E (T (S ?_));obtain ⟨jm,g,h0⟩:=bd g
    refine X c d (fun e L a' w'=>∃ b0,a0.le b0∧Env a' 273 (sl e [0,3,4,6,10,11,12] [(9,.bool jm)])∧Inv ah ac ag b0 L w') ?_ ?_
    · refine G (R q 2 c j fun a c=>?_);rcases Bo ax.2 with cd | cd
      · replace g:=ct cd g;have c:=c.tr (t:=117) j cd;refine R q 4 c j fun a c=>E (T ?_);cases g;exact ⟨a0,rf,c.kp j,d⟩
      replace g:=cf cd g;have c:=c.tr (t:=117) j cd;refine R q 4 c j fun a c=>E (T ?_);cases g;exact ⟨a0,rf,c.kp j,d⟩
    rintro a w ⟨b0,ew,c,d⟩;have g:=h0
    refine T (G (R q 1 c j fun a c=>L d c j (B q 2 j j j j) j fun a c=>R q 1 c j fun a c=>L d c j (B q 0 j j j j) j fun a c=>R q 1 c j fun a c=>L d c j (B q 0 j j j j) j fun a c=>R q 1 c j fun a c=>L d c j (B q 0 j j j j) j fun a c=>R q 1 c j fun a c=>L d c j (Bd q j z_52 j j) j fun a c=>Bs ai_39 d c j j j j j fun a w ks c d=>?_))
    have eg:RL b0 4 ([(TField.mk az.Name az.Type_ az.Null c6)].map TField.d) _:=(Rc (TField.inv.2 j) j Rn);obtain ⟨_,io,g⟩:=bd g
    refine Ao (f:=TField.d) (xs:=ax.1) (ys:=[(TField.mk az.Name az.Type_ az.Null c6)]) ai_39 2 0 d c j j j eg j j (Ll io) j fun a w fu f7 c d=>?_
    have h1:=Ra (eh.m ew) eg
    refine R q 1 c j fun a c=>W q 3 d c j j j j j j j j j j fun a w c d=>E (xB (T (G (R q 3 c j fun a c=>E (T ?_)))));cases g
    have c:=c.setI (t:=10) j (Wc d3 (Ln an))
    exact ⟨a7.length,Nat.lt_succ_self _,i1450 + 1,a7,_,b0,fu,f7,(b6 ++ [.string az.Name,i_ az.Type_,.bool az.Null,i_ c6]),j,d3,cx,bt,(bn.t ew),c.kp j,(d.dropN 2 j),h1⟩
  rintro a w ⟨z,a1,al,aj,dd,rfl,v,c,d,ao⟩;have g:=Lg hp
  refine T (S (S (G (R q 1 c j fun a c=>E (T (Cc (b:=z.2) c j (fun dq=>?_) (fun dq=>?_)))))))
  · replace g:=ct dq g
    refine S (G (L d c j (B q 1 j j j j) j fun a c=>W q 2 d c j j j j j j j j j j fun a w c d=>R q 1 c j fun a c=>E (T ?_)))
    obtain ⟨kf,iw,d,g3⟩:=(d.front 0).giveR (xs:=z.1.map TField.d) (by simp) ao;refine V (Xr ?_);cases g
    refine U q c d (.cell 1 j j j j (.tmp j .nil)) j ⟨_,_,_,j,(d.pick [3,4] (by decide) j),_,ad,ae,am,j,j,((TRelation.inv (x:=(TRelation.mk y.Name ai z.1 [] (-1:Int) []))).2 ⟨al,aj,none,0,none,0,j,g3,(Sn _ _ _ _ (Nat.zero_le _)),(Sn _ _ _ _ (Nat.zero_le _))⟩),(af.m (((((i.t l).t m).t n).t v).t iw))⟩
  replace g:=cf dq g;refine K (T (S (S (G (R q 1 c j fun a c=>E (T ?_))))));have d:=d.nilrow 3 1;have ib:RL a1 1 (([]:List Int).map di) []:=Rn
  obtain ⟨fe,bk,ed⟩:=bd g
  refine X c d (fun e L a' w'=>∃ aa bf aq ap de,fe = .go aa∧a1.le bf∧Env a' 273 (sl e [0,3,4,6] [])∧Inv ah ac ag bf [.row (.slice aq aa.length ap) 3 1 aa.length de,nt L 1,.blk cq [.string y.Name,i_ ai,.slice al z.1.length aj,.slice aq aa.length ap,i_ (-1:Int),.slice none 0 0] 43,nt L 3,nt L 4,nt L 5,nt L 6] w'∧RL bf 1 (aa.map di) de) ?_ ?_
  ·
    refine O (Q c d (fun e L n' a' w'=>∃ i1302 a6 ay a2 bz b5 b7,n'=List.length a6∧i1302≤y.Key.length∧y.Key.drop i1302=a6∧forL (ref08_Catalog_table.b1 k y ai z ak) i1302 a6 ay=some fe∧a1.le a2∧Env a' 273 (sl e [0,3,4,6] [(13,i_ (i1302:Int))])∧Inv ah ac ag a2 [.row (.slice bz ay.length b5) 3 1 ay.length b7,nt L 1,.blk cq [.string y.Name,i_ ai,.slice al z.1.length aj,.slice bz ay.length b5,i_ (-1:Int),.slice none 0 0] 43,nt L 3,nt L 4,nt L 5,nt L 6] w'∧RL a2 1 (ay.map di) b7) _ ⟨0,_,_,a1,none,0,[],j,Nat.zero_le _,j,bk,rf,c.kp j,d,ib⟩ ?_)
    rintro k7 a w ⟨i1302,a6,ay,a2,bz,b5,b7,rfl,iy,cw,bk,au,c,d,df⟩;rcases a6 with _ | ⟨lv,a6⟩
    · obtain rfl:=Fn bk;have d2:=Do cw iy
      refine S (S (G (R q 2 c j fun a c=>L d c j (B q 4 j j j j) j fun a c=>R q 2 c j fun a c=>E (T ?_))))
      have c:=c.tr (t:=140) j (decide_eq_false (by omega));refine Fa c j (Ex (Xe (Xe (Xh (T (⟨_,a2,bz,b5,b7,j,au,c.kp j,d,df⟩))))))
    obtain ⟨lp,g,bk⟩:=Fs bk;obtain ⟨d6,cw,d2⟩:=Dc cw;unfold ref08_Catalog_table.b1 at g
    refine S (S (G (R q 2 c j fun a c=>L d c j (B q 4 j j j j) j fun a c=>R q 2 c j fun a c=>E (T ?_))))
    have c:=c.tr (t:=140) j (decide_eq_true (by omega));refine Tr c j (K (T (S (O (S (S ?_))))));obtain ⟨e5,g,hu⟩:=bd g
    refine X c d (fun e L a' w'=>∃ da,a2.le da∧Env a' 273 (sl e [0,3,4,6,13] [(164,.bool e5)])∧Inv ah ac ag da L w') ?_ ?_
    ·
      refine Cd mixed (by kernel_rfl) d (Y q 1 c j fun a c=>Z c j (B q 4 j j j j) j fun a c=>Y q 1 c j fun a c=>Z c j (B q 4 j j j j) j fun a c=>Y q 1 c j fun a c=>?_)
      obtain ⟨ko,lg,cs,ik,hx,hd⟩:=Sa (a3.m (((((i.t l).t m).t n).t v).t au)) (Int.natCast_nonneg _) (natIdx d6);obtain rfl:=rep_str.1 hx
      refine Z c j (I q ik j j j) j fun a c=>Z c j (Fg q hd 0 j j j j) j fun a c=>?_;obtain ⟨js,je,g⟩:=bd g
      refine Qc cl_84 c j j (fun w d=>(ref08_Col.ok k) je d.pass0 (an.m (((((i.t l).t m).t n).t v).t au))) (fun _ _ _ h=>h.2) j fun a c=>Y q 2 c j fun a c=>?_
      rcases Bo (decide (js < (0:Int))) with cc | cc
      · replace g:=ct cc g;have c:=c.tr (t:=152) j cc;refine Y q 12 c j fun a c=>Qe ?_;intro w d;refine T ?_;cases g;exact ⟨a2,rf,c.kp j,d⟩
      replace g:=cf cc g;have c:=c.tr (t:=152) j cc;refine Y q 1 c j fun a c=>Z c j (B q 4 j j j j) j fun a c=>Y q 1 c j fun a c=>?_
      obtain ⟨l4,jl,g⟩:=bd g
      obtain ⟨ju,kz,gw,i5⟩:=f_cut (t:=22) (x:=.tmp 154) (lo:=none) (hi:=some (.tmp 155)) q c j (a3.m (((((i.t l).t m).t n).t v).t au)) j j j jl
      refine Z c j (i5 _) j fun a c=>Y q 1 c j fun a c=>Z c j (B q 4 j j j j) j fun a c=>Y q 1 c j fun a c=>?_
      obtain ⟨kp,lh,cs,il,hy,he⟩:=Sa (a3.m (((((i.t l).t m).t n).t v).t au)) (Int.natCast_nonneg _) (natIdx d6);obtain rfl:=rep_str.1 hy
      refine Z c j (I q il j j j) j fun a c=>Z c j (Fg q he 0 j j j j) j fun a c=>?_;obtain ⟨l2,jf,g⟩:=bd g
      refine Qc cl_81 c j j (fun w d=>(ref03_Find.ok k) jf d.pass0 gw) (fun _ _ _ h=>h.2) j fun a c=>Y q 2 c j fun a c=>Qe ?_;intro w d;refine T ?_;cases g
      exact ⟨a2,rf,c.kp j,d⟩
    rintro a w ⟨da,bm,c,d⟩;have g:=hu;refine T (Cc (b:=e5) c j (fun dp=>?_) (fun dp=>?_))
    · replace g:=ct dp g
      refine S (G (L d c j (B q 2 j j j j) j fun a c=>W q 3 d c j j j j j j j j j j fun a w c d=>R q 1 c j fun a c=>E (T ?_)))
      obtain ⟨ka,eu,d,gu⟩:=(d.front 1).giveR (xs:=z.1.map TField.d) (by simp) (ao.m (au.t bm))
      obtain ⟨kb,ev,d,gv⟩:=(d.front 0).giveR (xs:=ay.map di) (by simp) (df.m (bm.t eu));refine V (Xr (Xb (Xr (Xr (Xb (Xr (Xr ?_)))))));cases g
      obtain rfl:=Nr bk;have g:=Le ed;cases g
      refine U q c d (.cell 1 j j j j (.tmp j .nil)) j ⟨_,_,_,j,(d.pick [3,4] (by decide) j),_,ad,ae,am,j,j,((TRelation.inv (x:=(TRelation.mk y.Name ai z.1 ay (-1:Int) []))).2 ⟨al,aj,bz,b5,none,0,j,(gu.m ev),gv,(Sn _ _ _ _ (Nat.zero_le _))⟩),(af.m ((((((((i.t l).t m).t n).t v).t au).t bm).t eu).t ev))⟩
    replace g:=cf dp g
    refine K (T (Mx [2,4] [11,13] (.step 0 0 (.step 1 1 (.step 2 0 (.step 3 1 (.step 4 0 (.step 5 1 (.step 6 0 (.step 7 0 (.step 8 1 (.step 9 2 (.step 10 2 (.step 11 3 (.step 12 0 (.step 13 3 .nil)))))))))))))) mixed (mixF_all (by kernel_rfl)) d (by decide) j fun w d hS=>H q 1 c j fun a c=>Dd hS c j j (Rw fun _=>(B q 0 j j j j)) j fun a c=>H q 1 c j fun a c=>Dd hS c j j (Rw fun _=>(B q 1 j j j j)) j fun a c=>H q 1 c j fun a c=>Dd hS c j j (Rw fun _=>(B q 1 j j j j)) j fun a c=>H q 1 c j fun a c=>?_))
    obtain ⟨km,lf,cs,ii,hv,hc⟩:=Sa (a3.m ((((((i.t l).t m).t n).t v).t au).t bm)) (Int.natCast_nonneg _) (natIdx d6)
    obtain rfl:=rep_str.1 hv;refine Dr c j j (I q ii j j j) j fun a c=>Dd hS c j j (Rw fun _=>(Fg q hc 0 j j j j)) j fun a c=>Df j ?_
    obtain ⟨d7,jd,g⟩:=bd g;refine J cl_84 d c j j ((ref08_Col.ok k) jd d.pass0 (an.m ((((((i.t l).t m).t n).t v).t au).t bm))) j ?_
    rintro a w _ d8 _ ⟨rfl,rfl⟩ c0 d c;refine De (d.sw [2,4] (by decide) j c0) fun hS=>Df j (Bs ai_40 d c j j j j j fun a w kn c d=>?_)
    have ef:RL d8 1 ([d7].map di) _:=(Rc (rep_int.2 j) j Rn);refine De (d.sw [3,5] (by decide) j c0) fun hS=>Dl j ?_;obtain ⟨_,ij,g⟩:=bd g
    refine Ao (f:=di) (xs:=ay) (ys:=[d7]) ai_40 1 0 d c j j j ef j j (Ll ij) j fun a w ft f6 c d=>?_
    have hw:=Ra (df.m (bm.t c0)) ef
    refine Dn (H q 1 c j fun a c=>Dl j (W q 3 d c j j j j j j j j j j fun a w c d=>Dn (Dz (xB (T (G (R q 3 c j fun a c=>E (T ?_))))))))
    cases g;have c:=c.setI (t:=13) j (Wc d2 (Ln a3))
    exact ⟨a6.length,Nat.lt_succ_self _,i1302 + 1,a6,_,d8,ft,f6,(b7 ++ [i_ d7]),j,d2,cw,bk,((au.t bm).t c0),c.kp j,(d.dropN 1 j),hw⟩
  rintro a w ⟨aa,bf,aq,ap,de,rfl,s,c,d,ar⟩;have g:=Lg ed;refine T (S (S (G (R q 1 c j fun a c=>E (T ?_)))));have i2:=d.rle (xs:=aa) 0 j
  obtain ⟨ff,bl,ee⟩:=bd g;refine X c d (fun e L a' w'=>∃ fl br,ff = .go fl∧bf.le br∧Env a' 273 (sl e [0,3,4,6] [])∧Inv ah ac ag br L w') ?_ ?_
  ·
    refine O (Q c d (fun e L n' a' w'=>∃ i1238 a5 fk b1,n'=List.length a5∧i1238≤aa.length∧aa.drop i1238=a5∧forL (ref08_Catalog_table.b0 k aa z ak ai y) i1238 a5 fk=some ff∧bf.le b1∧Env a' 273 (sl e [0,3,4,6] [(14,i_ (i1238:Int))])∧Inv ah ac ag b1 L w') _ ⟨0,_,_,bf,j,Nat.zero_le _,j,bl,rf,c.kp j,d⟩ ?_)
    rintro k6 a w ⟨i1238,a5,fk,b1,rfl,ix,cv,bl,av,c,d⟩;rcases a5 with _ | ⟨lu,a5⟩
    · obtain rfl:=Fn bl;have d1:=Do cv ix
      refine S (S (G (R q 2 c j fun a c=>L d c j (B q 2 j j j j) j fun a c=>R q 2 c j fun a c=>E (T ?_))))
      have c:=c.tr (t:=183) j (decide_eq_false (by omega));refine Fa c j (Ex (Xe (Xe (Xh (T (⟨_,b1,j,av,c.kp j,d⟩))))))
    obtain ⟨ln,g,bl⟩:=Fs bl;obtain ⟨k5,cv,d1⟩:=Dc cv;unfold ref08_Catalog_table.b0 at g
    refine S (S (G (R q 2 c j fun a c=>L d c j (B q 2 j j j j) j fun a c=>R q 2 c j fun a c=>E (T ?_))))
    have c:=c.tr (t:=183) j (decide_eq_true (by omega))
    refine Tr c j (K (T (S (O (S (Cd mixed (by kernel_rfl) d (Y q 3 c j fun a c=>Z c j (B q 5 j j j j) j fun a c=>Y q 1 c j fun a c=>Z c j (B q 2 j j j j) j fun a c=>Y q 1 c j fun a c=>Z c j (B q 2 j j j j) j fun a c=>Y q 1 c j fun a c=>?_)))))))
    obtain ⟨l0,ck,g⟩:=bd g;obtain ⟨d9,rfl⟩:=row_ptr 0 d j j (Go ck).2;obtain ⟨k1,k3,i3,iu⟩:=Rt (ar.m av) (Go ck).2
    obtain rfl:=rep_int.1 i3
    refine Z c j (I q (Ro (Go ck).1 (Go ck).2 d9 1) j j j) j fun a c=>Z c j (f_loadR q 0 j iu 0 j j j j (Rl (ar.m av) (Go ck).2)) j fun a c=>?_
    obtain ⟨l1,cl,g⟩:=bd g;obtain ⟨ea,rfl⟩:=row_ptr 1 d j j (Go cl).2;obtain ⟨k2,k4,i4,iv⟩:=Rt (ao.m (s.t av)) (Go cl).2
    obtain rfl:=TField.inv.1 i4
    refine Z c j (I q (Ro (Go cl).1 (Go cl).2 ea 4) j j j) j fun a c=>Y q 1 c j fun a c=>Z c j (f_loadR q 1 j iv 3 j j j j (Rl (ao.m (s.t av)) (Go cl).2)) j fun a c=>Y q 1 c j fun a c=>Z c j (B q 2 j j j j) j fun a c=>?_
    obtain ⟨jr,jc,g⟩:=bd g
    refine Qc cl_13 c j j (fun w d=>(ref03_Lattice_Leq.ok k) jc d.pass0 (bh.m ((((((i.t l).t m).t n).t v).t s).t av))) (fun _ _ _ h=>h.2) j fun a c=>Y q 1 c j fun a c=>Qe ?_
    intro w d;refine T (Cc (b:=!jr) c j (fun dn=>?_) (fun dn=>?_));rotate_left
    · replace g:=cf dn g;refine K (xB (T (G (R q 3 c j fun a c=>E (T ?_)))));cases g;have c:=c.setI (t:=14) j (Wc d1 i2)
      exact ⟨a5.length,Nat.lt_succ_self _,i1238 + 1,a5,_,b1,j,d1,cv,bl,av,c.kp j,d⟩
    replace g:=ct dn g
    refine S (G (L d c j (B q 2 j j j j) j fun a c=>W q 3 d c j j j j j j j j j j fun a w c d=>R q 1 c j fun a c=>E (T ?_)))
    obtain ⟨j8,es,d,gs⟩:=(d.front 1).giveR (xs:=z.1.map TField.d) (by simp) (ao.m (s.t av))
    obtain ⟨j9,et,d,gt⟩:=(d.front 0).giveR (xs:=aa.map di) (by simp) (ar.m (av.t es));refine V (Xb (Xr (Xr (Xb (Xr (Xr ?_))))));cases g;obtain rfl:=Nr bl
    have g:=Le ee;cases g
    refine U q c d (.cell 1 j j j j (.tmp j .nil)) j ⟨_,_,_,j,(d.pick [3,4] (by decide) j),_,ad,ae,am,j,j,((TRelation.inv (x:=(TRelation.mk y.Name ai z.1 aa (-1:Int) []))).2 ⟨(p_ ea),aj,(p_ d9),ap,none,0,j,(gs.m et),gt,(Sn _ _ _ _ (Nat.zero_le _))⟩),(af.m ((((((((i.t l).t m).t n).t v).t s).t av).t es).t et))⟩
  rintro a w ⟨fl,br,rfl,o,c,d⟩;have g:=Lg ee;refine T (S (S ?_));obtain ⟨fa,g,id⟩:=bd g
  refine X c d (fun e L a' w'=>∃ bs,br.le bs∧Env a' 273 (sl e [0,3,4,6] [(213,.bool fa)])∧Inv ah ac ag bs L w') ?_ ?_
  · refine G (R q 1 c j fun a c=>L d c j (B q 4 j j j j) j fun a c=>R q 2 c j fun a c=>?_)
    rcases Bo (decide (y.Hide=(⟨#[]⟩:ByteArray))) with cb | cb;rotate_left
    · replace g:=cf cb g;have c:=c.tr (t:=208) j cb;refine R q 5 c j fun a c=>E (T ?_);cases g;exact ⟨br,rf,c.kp j,d⟩
    replace g:=ct cb g;have c:=c.tr (t:=208) j cb;refine R q 1 c j fun a c=>L d c j (B q 4 j j j j) j fun a c=>R q 3 c j fun a c=>E (T ?_)
    cases g;exact ⟨br,rf,c.kp j,d⟩
  rintro a w ⟨bs,p,c,d⟩;have g:=id;refine T (Cc (b:=fa) c j (fun dm=>?_) (fun dm=>?_))
  · replace g:=ct dm g
    refine S (G (L d c j (B q 2 j j j j) j fun a c=>W q 3 d c j j j j j j j j j j fun a w c d=>R q 1 c j fun a c=>E (T ?_)))
    obtain ⟨kg,ez,d,g4⟩:=(d.front 1).giveR (xs:=z.1.map TField.d) (by simp) (ao.m ((s.t o).t p))
    obtain ⟨kh,e0,d,g5⟩:=(d.front 0).giveR (xs:=aa.map di) (by simp) (ar.m ((o.t p).t ez));refine V (Xr ?_);cases g
    refine U q c d (.cell 1 j j j j (.tmp j .nil)) j ⟨_,_,_,j,(d.pick [3,4] (by decide) j),_,ad,ae,am,j,j,((TRelation.inv (x:=(TRelation.mk y.Name ai z.1 aa (-1:Int) []))).2 ⟨al,aj,aq,ap,none,0,j,(g4.m e0),g5,(Sn _ _ _ _ (Nat.zero_le _))⟩),(af.m (((((((((i.t l).t m).t n).t v).t s).t o).t p).t ez).t e0))⟩
  replace g:=cf dm g;refine K (T (S (G (R q 2 c j fun a c=>L d c j (B q 4 j j j j) j fun a c=>?_))));obtain ⟨ba,jk,g⟩:=bd g
  refine Cl (S:=fun _ L' u=>L'=[]∧u=i_ ba) cl_85 d c j j (by obtain ⟨ki,d0,d,g6⟩:=(d.front 6).giveR (xs:=ak.Tables.map TRelation.d) (by simp) (af.m (((((((i.t l).t m).t n).t v).t s).t o).t p));obtain ⟨fz,c4,d,ho⟩:=(d.front 5).giveB;have g7:Pt fz (p_ b2) 36 Tref08_Catalog.d (some ak):=Pm (Tref08_Catalog.inv.2 ⟨bx,ad,ae,bv,b3,bw,b4,j,(bh.m (((((((((i.t l).t m).t n).t v).t s).t o).t p).t d0).t c4)),(g6.m c4),(b8.m (((((((((i.t l).t m).t n).t v).t s).t o).t p).t d0).t c4)),(b9.m (((((((((i.t l).t m).t n).t v).t s).t o).t p).t d0).t c4))⟩) ho;exact ⟨_,(ref08_Catalog_level.ok k) jk d.pass0 g7⟩) (fun _ _ _ h=>h.2) j ?_
  intro a w d c
  refine R q 1 c j fun a c=>W q 2 d c j j j j j j j j j j fun a w c d=>E (T (S (S (G (R q 1 c j fun a c=>L d c j (B q 2 j j j j) j fun a c=>R q 1 c j fun a c=>E (T (Cc (b:=decide (ba < (0:Int))) c j (fun dl=>?_) (fun dl=>?_))))))))
  · replace g:=ct dl g
    refine S (G (L d c j (B q 2 j j j j) j fun a c=>W q 3 d c j j j j j j j j j j fun a w c d=>R q 1 c j fun a c=>E (T ?_)))
    obtain ⟨jv,ei,d,f8⟩:=(d.front 1).giveR (xs:=z.1.map TField.d) (by simp) (ao.m ((s.t o).t p))
    obtain ⟨jw,ej,d,f9⟩:=(d.front 0).giveR (xs:=aa.map di) (by simp) (ar.m ((o.t p).t ei));refine V (Xr ?_);cases g
    refine U q c d (.cell 1 j j j j (.tmp j .nil)) j ⟨_,_,_,j,(d.pick [3,4] (by decide) j),_,ad,ae,am,j,j,((TRelation.inv (x:=(TRelation.mk y.Name ai z.1 aa ba []))).2 ⟨al,aj,aq,ap,none,0,j,(f8.m ej),f9,(Sn _ _ _ _ (Nat.zero_le _))⟩),(af.m (((((((((i.t l).t m).t n).t v).t s).t o).t p).t ei).t ej))⟩
  replace g:=cf dl g
  refine K (T (S (S (Cd mixed (by kernel_rfl) d (Y q 3 c j fun a c=>Z c j (B q 5 j j j j) j fun a c=>Y q 1 c j fun a c=>Z c j (B q 2 j j j j) j fun a c=>Y q 1 c j fun a c=>Z c j (B q 2 j j j j) j fun a c=>?_)))))
  obtain ⟨jp,i7,g⟩:=bd g
  refine Qc cl_13 c j j (fun w d=>(ref03_Lattice_Leq.ok k) i7 d.pass0 (bh.m (((((((i.t l).t m).t n).t v).t s).t o).t p))) (fun _ _ _ h=>h.2) j fun a c=>Y q 1 c j fun a c=>Qe ?_
  intro w d;refine T (Cc (b:=!jp) c j (fun dk=>?_) (fun dk=>?_))
  · replace g:=ct dk g
    refine S (G (L d c j (B q 2 j j j j) j fun a c=>W q 3 d c j j j j j j j j j j fun a w c d=>R q 1 c j fun a c=>E (T ?_)))
    obtain ⟨jx,ek,d,ga⟩:=(d.front 1).giveR (xs:=z.1.map TField.d) (by simp) (ao.m ((s.t o).t p))
    obtain ⟨jy,el,d,gb⟩:=(d.front 0).giveR (xs:=aa.map di) (by simp) (ar.m ((o.t p).t ek));refine V (Xr ?_);cases g
    refine U q c d (.cell 1 j j j j (.tmp j .nil)) j ⟨_,_,_,j,(d.pick [3,4] (by decide) j),_,ad,ae,am,j,j,((TRelation.inv (x:=(TRelation.mk y.Name ai z.1 aa ba []))).2 ⟨al,aj,aq,ap,none,0,j,(ga.m el),gb,(Sn _ _ _ _ (Nat.zero_le _))⟩),(af.m (((((((((i.t l).t m).t n).t v).t s).t o).t p).t ek).t el))⟩
  replace g:=cf dk g;refine K (T (S (S ?_)));obtain ⟨e4,g,hq⟩:=bd g
  refine X c d (fun e L a' w'=>∃ c9,bs.le c9∧Env a' 273 (sl e [0,3,4,6] [(247,.bool e4)])∧Inv ah ac ag c9 L w') ?_ ?_
  · refine Cd mixed (by kernel_rfl) d (Y q 1 c j fun a c=>Z c j (B q 4 j j j j) j fun a c=>Y q 3 c j fun a c=>?_)
    rcases Bo (!decide ((y.When.length:Int)=(1:Int))) with ca | ca
    · replace g:=ct ca g;have c:=c.tr (t:=239) j ca;refine Y q 8 c j fun a c=>Qe ?_;intro w d;refine T ?_;cases g;exact ⟨bs,rf,c.kp j,d⟩
    replace g:=cf ca g;have c:=c.tr (t:=239) j ca
    refine Z c j (B q 4 j j j j) j fun a c=>Y q 1 c j fun a c=>Z c j (B q 4 j j j j) j fun a c=>?_;obtain ⟨ly,e3,g⟩:=bd g
    obtain ⟨kl,ld,cs,ih,ht,hb⟩:=Sa (bg.m (((((((i.t l).t m).t n).t v).t s).t o).t p)) (Go e3).1 (Go e3).2
    obtain ⟨fr,f4,fs,f5,rfl,gq,gr⟩:=TExpr.inv.1 ht;refine Z c j (I q ih j j j) j fun a c=>Z c j (Fg q hb 0 j j j j) j fun a c=>?_
    obtain ⟨lz,jb,g⟩:=bd g
    refine Qc cl_86 c j j (fun w d=>(ref08_Shape.ok k) jb d.pass0 (TTable.inv.2 ⟨c7,db,c8,dc,cm,cr,j,(an.m (((((((i.t l).t m).t n).t v).t s).t o).t p)),(a3.m (((((((i.t l).t m).t n).t v).t s).t o).t p)),(bg.m (((((((i.t l).t m).t n).t v).t s).t o).t p))⟩) (TExpr.inv.2 ⟨fr,f4,fs,f5,j,gq,gr⟩)) (fun _ _ _ h=>h.2) j fun a c=>Y q 2 c j fun a c=>Qe ?_
    intro w d;refine T ?_;cases g;exact ⟨bs,rf,c.kp j,d⟩
  rintro a w ⟨c9,ab,c,d⟩;have g:=hq;refine T (Cc (b:=e4) c j (fun dj=>?_) (fun dj=>?_))
  · replace g:=ct dj g
    refine S (G (L d c j (B q 2 j j j j) j fun a c=>W q 3 d c j j j j j j j j j j fun a w c d=>R q 1 c j fun a c=>E (T ?_)))
    obtain ⟨jz,em,d,gc⟩:=(d.front 1).giveR (xs:=z.1.map TField.d) (by simp) (ao.m (((s.t o).t p).t ab))
    obtain ⟨j0,en,d,gd⟩:=(d.front 0).giveR (xs:=aa.map di) (by simp) (ar.m (((o.t p).t ab).t em));refine V (Xr ?_);cases g
    refine U q c d (.cell 1 j j j j (.tmp j .nil)) j ⟨_,_,_,j,(d.pick [3,4] (by decide) j),_,ad,ae,am,j,j,((TRelation.inv (x:=(TRelation.mk y.Name ai z.1 aa ba []))).2 ⟨al,aj,aq,ap,none,0,j,(gc.m en),gd,(Sn _ _ _ _ (Nat.zero_le _))⟩),(af.m ((((((((((i.t l).t m).t n).t v).t s).t o).t p).t ab).t em).t en))⟩
  replace g:=cf dj g
  refine K (T (S (S (Cd mixed (by kernel_rfl) d (Z c j (B q 4 j j j j) j fun a c=>Y q 1 c j fun a c=>Z c j (B q 4 j j j j) j fun a c=>?_)))))
  obtain ⟨lw,c5,g⟩:=bd g
  obtain ⟨kj,lb,cs,ie,hr,g8⟩:=Sa (bg.m ((((((((i.t l).t m).t n).t v).t s).t o).t p).t ab)) (Go c5).1 (Go c5).2
  obtain ⟨fn,f0,fo,f1,rfl,ge,gf⟩:=TExpr.inv.1 hr;refine Z c j (I q ie j j j) j fun a c=>Z c j (Fg q g8 0 j j j j) j fun a c=>?_
  obtain ⟨lx,i8,g⟩:=bd g
  refine Qc cl_88 c j j (fun w d=>(ref08_Type.ok k) i8 d.pass0 (TTable.inv.2 ⟨c7,db,c8,dc,cm,cr,j,(an.m ((((((((i.t l).t m).t n).t v).t s).t o).t p).t ab)),(a3.m ((((((((i.t l).t m).t n).t v).t s).t o).t p).t ab)),(bg.m ((((((((i.t l).t m).t n).t v).t s).t o).t p).t ab))⟩) (TExpr.inv.2 ⟨fn,f0,fo,f1,j,ge,gf⟩)) (fun _ _ _ h=>h.2) j fun a c=>?_
  obtain ⟨jq,i9,g⟩:=bd g;refine Qc cl_87 c j j (fun w d=>(ref08_may.ok k) i9 d.pass0 ) (fun _ _ _ h=>h.2) j fun a c=>Y q 1 c j fun a c=>Qe ?_;intro w d
  refine T (Cc (b:=!jq) c j (fun dh=>?_) (fun dh=>?_))
  · replace g:=ct dh g
    refine S (G (L d c j (B q 2 j j j j) j fun a c=>W q 3 d c j j j j j j j j j j fun a w c d=>R q 1 c j fun a c=>E (T ?_)))
    obtain ⟨j1,eo,d,gg⟩:=(d.front 1).giveR (xs:=z.1.map TField.d) (by simp) (ao.m (((s.t o).t p).t ab))
    obtain ⟨j2,ep,d,gh⟩:=(d.front 0).giveR (xs:=aa.map di) (by simp) (ar.m (((o.t p).t ab).t eo));refine V (Xr ?_);cases g
    refine U q c d (.cell 1 j j j j (.tmp j .nil)) j ⟨_,_,_,j,(d.pick [3,4] (by decide) j),_,ad,ae,am,j,j,((TRelation.inv (x:=(TRelation.mk y.Name ai z.1 aa ba []))).2 ⟨al,aj,aq,ap,none,0,j,(gg.m ep),gh,(Sn _ _ _ _ (Nat.zero_le _))⟩),(af.m ((((((((((i.t l).t m).t n).t v).t s).t o).t p).t ab).t eo).t ep))⟩
  replace g:=cf dh g
  refine K (T (S (S (Cd mixed (by kernel_rfl) d (Y q 1 c j fun a c=>Z c j (B q 4 j j j j) j fun a c=>Y q 1 c j fun a c=>Z c j (B q 4 j j j j) j fun a c=>?_)))))
  obtain ⟨kk,lc,cs,ig,hs,g9⟩:=Sa (bg.m ((((((((i.t l).t m).t n).t v).t s).t o).t p).t ab)) (Go c5).1 (Go c5).2
  obtain ⟨fp,f2,fq,f3,rfl,gi,gj⟩:=TExpr.inv.1 hs
  refine Z c j (I q ig j j j) j fun a c=>Z c j (Fg q g9 0 j j j j) j fun a c=>Y q 1 c j fun a c=>Z c j (B q 2 j j j j) j fun a c=>?_
  obtain ⟨fm,ja,g⟩:=bd g
  refine q_callL (S:=fun _ L' u=>L'=[]∧u = .bool fm) cl_89 c j j (fun w d=>(by obtain ⟨j3,a4,d,gk⟩:=(d.front 6).giveR (xs:=ak.Tables.map TRelation.d) (by simp) (af.m ((((((((i.t l).t m).t n).t v).t s).t o).t p).t ab));obtain ⟨fv,aw,d,ha⟩:=(d.front 5).giveB;have gl:Pt fv (p_ b2) 36 Tref08_Catalog.d (some ak):=Pm (Tref08_Catalog.inv.2 ⟨bx,ad,ae,bv,b3,bw,b4,j,(bh.m ((((((((((i.t l).t m).t n).t v).t s).t o).t p).t ab).t a4).t aw)),(gk.m aw),(b8.m ((((((((((i.t l).t m).t n).t v).t s).t o).t p).t ab).t a4).t aw)),(b9.m ((((((((((i.t l).t m).t n).t v).t s).t o).t p).t ab).t a4).t aw))⟩) ha;exact ⟨_,(ref08_Catalog_Below.ok k) ja d.pass0 gl (TTable.inv.2 ⟨c7,db,c8,dc,cm,cr,j,(an.m ((((((((((i.t l).t m).t n).t v).t s).t o).t p).t ab).t a4).t aw)),(a3.m ((((((((((i.t l).t m).t n).t v).t s).t o).t p).t ab).t a4).t aw)),(bg.m ((((((((((i.t l).t m).t n).t v).t s).t o).t p).t ab).t a4).t aw))⟩) (TExpr.inv.2 ⟨fp,f2,fq,f3,j,(gi.m (a4.t aw)),(gj.m (a4.t aw))⟩)⟩)) (fun _ _ _ h=>h.2) j fun a c=>Y q 1 c j fun a c=>Qe ?_
  intro w d;refine T (Cc (b:=!fm) c j (fun dg=>?_) (fun dg=>?_))
  · replace g:=ct dg g
    refine S (G (L d c j (B q 2 j j j j) j fun a c=>W q 3 d c j j j j j j j j j j fun a w c d=>R q 1 c j fun a c=>E (T ?_)))
    obtain ⟨j4,eq,d,gm⟩:=(d.front 1).giveR (xs:=z.1.map TField.d) (by simp) (ao.m (((s.t o).t p).t ab))
    obtain ⟨j5,er,d,gn⟩:=(d.front 0).giveR (xs:=aa.map di) (by simp) (ar.m (((o.t p).t ab).t eq));refine V (Xr ?_);cases g
    refine U q c d (.cell 1 j j j j (.tmp j .nil)) j ⟨_,_,_,j,(d.pick [3,4] (by decide) j),_,ad,ae,am,j,j,((TRelation.inv (x:=(TRelation.mk y.Name ai z.1 aa ba []))).2 ⟨al,aj,aq,ap,none,0,j,(gm.m er),gn,(Sn _ _ _ _ (Nat.zero_le _))⟩),(af.m ((((((((((i.t l).t m).t n).t v).t s).t o).t p).t ab).t eq).t er))⟩
  replace g:=cf dg g
  refine K (T (S (G (R q 1 c j fun a c=>L d c j (B q 4 j j j j) j fun a c=>R q 1 c j fun a c=>W q 2 d c j j j j j j j j j j fun a w c d=>E (T (S (G (L d c j (B q 2 j j j j) j fun a c=>W q 3 d c j j j j j j j j j j fun a w c d=>R q 1 c j fun a c=>E (T ?_)))))))))
  obtain ⟨j6,dv,d,go⟩:=(d.front 1).giveR (xs:=z.1.map TField.d) (by simp) (ao.m (((s.t o).t p).t ab))
  obtain ⟨j7,dw,d,gp⟩:=(d.front 0).giveR (xs:=aa.map di) (by simp) (ar.m (((o.t p).t ab).t dv));refine V ?_;cases g
  refine U q c d (.cell 1 j j j j (.tmp j .nil)) j ⟨_,_,_,j,(d.pick [3,4] (by decide) j),_,ad,ae,am,j,j,((TRelation.inv (x:=(TRelation.mk y.Name ai z.1 aa ba y.When))).2 ⟨al,aj,aq,ap,cm,cr,j,(go.m dw),gp,(bg.m ((((((((((i.t l).t m).t n).t v).t s).t o).t p).t ab).t dv).t dw))⟩),(af.m ((((((((((i.t l).t m).t n).t v).t s).t o).t p).t ab).t dv).t dw))⟩

theorem cl_12:Callable Tryz.prog 12:=⟨_,Tryz.func12,by kernel_rfl,by kernel_rfl⟩

def ref08_Find.C (s:(List TNamed)→ByteArray→Option (Int × Bool)):Prop:=∀ {d g r},s d g=some r→∀ {c b e f},Inv c b [] b [] c→(Sl b e f 2 (d.map TNamed.d))→Calls Tryz.prog 12 #[.slice e d.length f,.string g] c (Ret c b [] fun G' L' v=>L'=[]∧v = .tuple ⟨[i_ r.1,.bool r.2]⟩)
end Go.Proofs.YtknhbphhdfknaaaGreatDoor
