/- The contracts: what the machine does at a call is what the plain function says. Written by mk.py. -/
import Derived.Test.YtknhbphhdfknaaaGreatDoorCgT1
set_option linter.unusedVariables false
set_option linter.unusedSimpArgs false
set_option maxRecDepth 100000
namespace Go.Proofs.YtknhbphhdfknaaaGreatDoor
open Go.RowKit
theorem lattice_Lattice_edges.ok (k:Nat):lattice_Lattice_edges.C (lattice_Lattice_edges k):=by
  intro g e0 r f u h o m u2 l e2 e3 e6 n p dc he hg d ej fc em ei
  unfold lattice_Lattice_edges at f
  refine Ci 151 Tryz.func68 j j j fun a c=>?_
  refine S (G (R q 1 c j fun a c=>E (T (c_scope 0 j (S (S (G (R q 3 c j fun a c=>E (T ?_)))))))));obtain ⟨ev,a4,ek⟩:=bd f
  refine X c d (fun e L a' w'=>∃ bp bb cn c2 dd,ev = .go bp∧h.le bb∧Env a' 151 (sl e [0] [])∧Inv u h o bb [.blk m ([u2,.map l,.slice cn bp.length c2,.slice n g.down_.length p] ++ (arCells .i64 256 g.join_ ++ (arCells .i64 256 g.meet_ ++ []))) 160,.row (.slice cn bp.length c2) 155 1 bp.length dd,nt L 2] w'∧RL bb 1 (bp.map (D.int .u32)) dd) ?_ ?_
  ·
    refine O (Q c d (fun e L n' a' w'=>∃ i8973 ay i ao ah ac aj,n'=List.length ay∧i8973≤e0.length∧e0.drop i8973=ay∧forL (lattice_Lattice_edges.b5 k g) i8973 ay i=some ev∧h.le ao∧Env a' 151 (sl e [0,16,17] [(18,i_ (i8973:Int))])∧Inv u h o ao [.blk m ([u2,.map l,.slice ah i.length ac,.slice n g.down_.length p] ++ (arCells .i64 256 g.join_ ++ (arCells .i64 256 g.meet_ ++ []))) 160,.row (.slice ah i.length ac) 155 1 i.length aj,nt L 2] w'∧RL ao 1 (i.map (D.int .u32)) aj) _ ⟨0,_,_,h,e2,e3,e6,j,Nat.zero_le _,j,a4,rf,c.kp j,d,fc⟩ ?_)
    rintro h7 a w ⟨i8973,ay,i,ao,ah,ac,aj,rfl,gh,dv,a4,bo,c,d,a7⟩;rcases ay with _ | ⟨ab,ay⟩
    · obtain rfl:=Fn a4;have ee:=Do dv gh;refine S (G (R q 1 c j fun a c=>E (T (S ?_))));have c:=c.tr (t:=19) j (decide_eq_false (by omega))
      refine Fa c j (Ex (Xe (Xe (Xh (T (⟨_,ao,ah,ac,aj,j,bo,c.kp j,d,a7⟩))))))
    obtain ⟨ie,f,a4⟩:=Fs a4;obtain ⟨g5,dv,ee⟩:=Dc dv;unfold lattice_Lattice_edges.b5 at f;refine S (G (R q 1 c j fun a c=>E (T (S ?_))))
    have c:=c.tr (t:=19) j (decide_eq_true (by omega));refine Tr c j (K (T (S (O (S (G ?_))))))
    obtain ⟨hf,h8,cs,fu,fr,e7⟩:=Sa (ei.m bo) (Int.natCast_nonneg _) (natIdx g5);obtain rfl:=TPair.inv.1 fr
    refine L d c j (I q fu j j j) j fun a c=>L d c j (Fg q e7 0 j j j j) j fun a c=>A d c j z_94 j j fun a w eh c d=>W q 0 d c j j j j j j j j j j fun a w c d=>E (T (S (Cd mixed (by kernel_rfl) d (Y q 3 c j fun a c=>Z c j (B q 1 j j j j) j fun a c=>Y q 1 c j fun a c=>Z c j (B q 0 j j j j) j fun a c=>?_))))
    obtain ⟨e4,u8991,gp,g3,g1⟩:=f_lookG key_str (ej.m bo) um_109 uk_9 true c (L:=[.blk eh [.string ab.Low,.string ab.High] 94,.blk m ([u2,.map l,.slice ah i.length ac,.slice n g.down_.length p] ++ (arCells .i64 256 g.join_ ++ (arCells .i64 256 g.meet_ ++ []))) 160,.row (.slice ah i.length ac) 155 1 i.length aj,.row (.slice n g.down_.length p) 155 1 g.down_.length dc]) (x:=.tmp 26) (y:=.tmp 28) j j z_3 (rep_int.2 j) j
    obtain rfl:e4=[u8991]:=g3;obtain rfl:=rep1_int.1 gp;refine Z c j (g1 _ _ _) j fun a c=>Y q 5 c j fun a c=>Qe ?_;intro w d
    refine T (S (Cd mixed (by kernel_rfl) d (Y q 3 c j fun a c=>Z c j (B q 1 j j j j) j fun a c=>Y q 1 c j fun a c=>Z c j (B q 0 j j j j) j fun a c=>?_)))
    obtain ⟨e5,u8999,gq,g4,g2⟩:=f_lookG key_str (ej.m bo) um_109 uk_9 true c (L:=[.blk eh [.string ab.Low,.string ab.High] 94,.blk m ([u2,.map l,.slice ah i.length ac,.slice n g.down_.length p] ++ (arCells .i64 256 g.join_ ++ (arCells .i64 256 g.meet_ ++ []))) 160,.row (.slice ah i.length ac) 155 1 i.length aj,.row (.slice n g.down_.length p) 155 1 g.down_.length dc]) (x:=.tmp 36) (y:=.tmp 38) j j z_3 (rep_int.2 j) j
    obtain rfl:e5=[u8999]:=g4;obtain rfl:=rep1_int.1 gq;refine Z c j (g2 _ _ _) j fun a c=>Y q 5 c j fun a c=>Qe ?_;intro w d;refine T (S (S ?_))
    obtain ⟨eu,f,fs⟩:=bd f;refine X c d (fun e L a' w'=>∃ b2,ao.le b2∧Env a' 151 (sl e [0,7,9,16,17,18] [(47,.bool eu)])∧Inv u h o b2 [nt L 1,nt L 2,nt L 3] w') ?_ ?_
    · refine G (R q 3 c j fun a c=>?_);rcases Bo (!((mget g.at_ ab.Low).isSome)) with cc | cc
      · replace f:=ct cc f;have c:=c.tr (t:=44) j cc;refine R q 3 c j fun a c=>E (T ?_);cases f;exact ⟨ao,rf,c.kp j,(d.dropN 1 j)⟩
      replace f:=cf cc f;have c:=c.tr (t:=44) j cc;refine R q 3 c j fun a c=>E (T ?_);cases f;exact ⟨ao,rf,c.kp j,(d.dropN 1 j)⟩
    rintro a w ⟨b2,aq,c,d⟩;have f:=fs;refine T (Cc (b:=eu) c j (fun d8=>?_) (fun d8=>?_))
    · replace f:=ct d8 f;refine S (G (R q 1 c j fun a c=>E (T (V (Xr (Xb (Xr (Xr (Xb (Xr (Xr (xSr ?_))))))))))));cases f;obtain rfl:=Nr a4;have f:=Le ek
      cases f;refine N (v:=_) c j ⟨_,_,_,j,d,ah,ac,aj,n,p,dc,j,j,(a7.m aq),(em.m (bo.t aq))⟩
    replace f:=cf d8 f
    refine K (T (Mx [0,1] [11] (.step 0 0 (.step 1 0 (.step 2 0 (.step 3 1 (.step 4 0 (.step 5 0 (.step 6 1 (.step 7 0 (.step 8 0 (.step 9 0 (.step 10 0 (.step 11 3 .nil)))))))))))) mixed (mixF_all (by kernel_rfl)) d (by decide) j fun w d hS=>H q 3 c j fun a c=>Dd hS c j j (Rw fun _=>(B q 0 j j j j)) j fun a c=>H q 1 c j fun a c=>?_))
    obtain ⟨bs,cl,f⟩:=bd f;obtain ⟨d4,rfl⟩:=row_ptr 1 d j j (Go cl).2;obtain ⟨hp,hx,gz,f3⟩:=Rt (a7.m aq) (Go cl).2
    obtain rfl:=rep_int.1 gz
    refine Dr c j j (I q (Ro (Go cl).1 (Go cl).2 d4 1) j j j) j fun a c=>Dd hS c j j (Rw fun _=>(f_loadR q 1 j f3 0 j j j j (Rl (a7.m aq) (Go cl).2))) j fun a c=>H q 1 c j fun a c=>?_
    obtain ⟨bu,g9,f⟩:=bd f;refine Dr c j j (f_shl j j g9) j fun a c=>H q 1 c j fun a c=>?_;obtain ⟨io,cm,f⟩:=bd f
    obtain ⟨hq,f7,g0,f4⟩:=Rt (a7.m aq) (Go cm).2;obtain rfl:=rep_int.1 g0
    refine Dr c j j (I q (Ro (Go cm).1 (Go cm).2 d4 1) j j j) j fun a c=>Dl j (s_storeS (xs:=i) (j:=((mget g.at_ ab.Low).getD (0:Int))) (y':=IntKind.wrap .u32 ((BitVec.ofInt (IntKind.bits .u32) bs) ||| (BitVec.ofInt (IntKind.bits .u32) bu)).toNat) q 1 d c j j f4 f7 (Rl (a7.m aq) (Go cm).2) 0 j j j j j j j j fun a w c go d=>?_)
    have ft:RL b2 1 ((setO i ((mget g.at_ ab.Low).getD (0:Int)) (IntKind.wrap .u32 ((BitVec.ofInt (IntKind.bits .u32) bs) ||| (BitVec.ofInt (IntKind.bits .u32) bu)).toNat)).map (D.int .u32)) (putAt aj (((mget g.at_ ab.Low).getD (0:Int)).toNat * 1) [.int .u32 (IntKind.wrap .u32 ((BitVec.ofInt (IntKind.bits .u32) bs) ||| (BitVec.ofInt (IntKind.bits .u32) bu)).toNat)]):=RL.set (a7.m aq) (row_lt (Go cm).2) (rep_int.2 j) go
    have c:=c.setV (t:=51) j (Ss (xs:=i) (j:=((mget g.at_ ab.Low).getD (0:Int))) (y':=IntKind.wrap .u32 ((BitVec.ofInt (IntKind.bits .u32) bs) ||| (BitVec.ofInt (IntKind.bits .u32) bu)).toNat))
    rw [Ss (xs:=i) (j:=((mget g.at_ ab.Low).getD (0:Int))) (y':=IntKind.wrap .u32 ((BitVec.ofInt (IntKind.bits .u32) bs) ||| (BitVec.ofInt (IntKind.bits .u32) bu)).toNat)] at d
    refine Dn (Dz (xB (T (G (R q 2 c j fun a c=>E (T ?_))))));cases f;have c:=c.setI (t:=18) j (Wc ee (Ln ei))
    exact ⟨ay.length,Nat.lt_succ_self _,i8973 + 1,ay,_,b2,(p_ d4),ac,(putAt aj (((mget g.at_ ab.Low).getD (0:Int)).toNat * 1) [.int .u32 (IntKind.wrap .u32 ((BitVec.ofInt (IntKind.bits .u32) bs) ||| (BitVec.ofInt (IntKind.bits .u32) bu)).toNat)]),j,ee,dv,a4,(bo.t aq),c.kp j,d,ft⟩
  rintro a w ⟨bp,bb,cn,c2,dd,rfl,f8,c,d,fd⟩;have f:=Lg ek;refine T ?_;obtain ⟨ha,a5,e8⟩:=bd f
  refine c_labelE c d (fun e L n' a' w'=>∃ al az co c3 de,whileL (lattice_Lattice_edges.b0 k g) n' al=some ha∧bb.le az∧Env a' 151 (sl e [0] [])∧Inv u h o az [.blk m ([u2,.map l,.slice co al.length c3,.slice n g.down_.length p] ++ (arCells .i64 256 g.join_ ++ (arCells .i64 256 g.meet_ ++ []))) 160,.row (.slice co al.length c3) 155 1 al.length de,nt L 2] w'∧RL az 1 (al.map (D.int .u32)) de) _ j ⟨_,bb,cn,c2,dd,a5,rf,c.kp j,d,fd⟩ ?_
  rintro ef a w ⟨al,az,co,c3,de,a5,ep,c,d,fe⟩;rcases ef with _ | ef
  · cases a5
  obtain ⟨h9,f,a5⟩:=Wh a5;unfold lattice_Lattice_edges.b0 at f
  refine S (S (G (R q 3 c j fun a c=>L d c j (B q 0 j j j j) j fun a c=>R q 2 c j fun a c=>E (T ?_))));have gl:=d.rle (xs:=al) 1 j
  obtain ⟨ew,a6,el⟩:=bd f
  refine X c d (fun e L a' w'=>∃ an a0 cq c4 df,ew = .go an∧az.le a0∧Env a' 151 (sl e [0] [])∧Inv u h o a0 [.blk m ([u2,.map l,.slice cq an.length c4,.slice n g.down_.length p] ++ (arCells .i64 256 g.join_ ++ (arCells .i64 256 g.meet_ ++ []))) 160,.row (.slice cq an.length c4) 155 1 an.length df,nt L 2] w'∧RL a0 1 (an.map (D.int .u32)) df) ?_ ?_
  ·
    refine O (Q c d (fun e L n' a' w'=>∃ i8511 aw am ap cp b3 b7,n'=List.length aw∧i8511≤al.length∧al.drop i8511=aw∧forL (lattice_Lattice_edges.b3 k) i8511 aw am=some ew∧az.le ap∧Env a' 151 (sl e [0,64] [(65,i_ (i8511:Int))])∧Inv u h o ap [.blk m ([u2,.map l,.slice cp am.length b3,.slice n g.down_.length p] ++ (arCells .i64 256 g.join_ ++ (arCells .i64 256 g.meet_ ++ []))) 160,.row (.slice cp am.length b3) 155 1 am.length b7,nt L 2] w'∧RL ap 1 (am.map (D.int .u32)) b7) _ ⟨0,_,_,az,co,c3,de,j,Nat.zero_le _,j,a6,rf,c.kp j,d,fe⟩ ?_)
    rintro h5 a w ⟨i8511,aw,am,ap,cp,b3,b7,rfl,gf,dt,a6,d9,c,d,dp⟩;rcases aw with _ | ⟨ii,aw⟩
    · obtain rfl:=Fn a6;have ec:=Do dt gf;refine S (G (R q 1 c j fun a c=>E (T (S ?_))));have c:=c.tr (t:=66) j (decide_eq_false (by omega))
      refine Fa c j (Ex (Xe (Xe (Xh (T (⟨_,ap,cp,b3,b7,j,d9,c.kp j,d,dp⟩))))))
    obtain ⟨ic,f,a6⟩:=Fs a6;obtain ⟨h1,dt,ec⟩:=Dc dt;unfold lattice_Lattice_edges.b3 at f;refine S (G (R q 1 c j fun a c=>E (T (S ?_))))
    have c:=c.tr (t:=66) j (decide_eq_true (by omega))
    refine Tr c j (K (T (S (O (S (G (R q 2 c j fun a c=>E (T (S (G (R q 3 c j fun a c=>L d c j (B q 0 j j j j) j fun a c=>R q 1 c j fun a c=>?_)))))))))))
    obtain ⟨e1,ch,f⟩:=bd f;obtain ⟨eg,rfl⟩:=row_ptr 1 d j j (Go ch).2;obtain ⟨hk,ht,gu,fy⟩:=Rt dp (Go ch).2;obtain rfl:=rep_int.1 gu
    refine L d c j (I q (Ro (Go ch).1 (Go ch).2 eg 1) j j j) j fun a c=>L d c j (f_loadR q 1 j fy 0 j j j j (Rl dp (Go ch).2)) j fun a c=>R q 1 c j fun a c=>E (T (S (S (G (R q 3 c j fun a c=>L d c j (B q 0 j j j j) j fun a c=>R q 2 c j fun a c=>E (T ?_))))))
    have gm:=d.rle (xs:=am) 1 j;obtain ⟨ez,bn,fb⟩:=bd f
    refine X c d (fun e L a' w'=>∃ bq bg dy b6 ca,ez = .go bq∧ap.le bg∧Env a' 151 (sl e [0,11,12,64,65] [])∧Inv u h o bg [.blk m ([u2,.map l,.slice dy bq.length b6,.slice n g.down_.length p] ++ (arCells .i64 256 g.join_ ++ (arCells .i64 256 g.meet_ ++ []))) 160,.row (.slice dy bq.length b6) 155 1 bq.length ca,nt L 2] w'∧RL bg 1 (bq.map (D.int .u32)) ca) ?_ ?_
    rotate_left
    · rintro a w ⟨bq,bg,dy,b6,ca,rfl,et,c,d,dq⟩;have f:=Lg fb
      refine T (S (G (R q 3 c j fun a c=>L d c j (B q 0 j j j j) j fun a c=>R q 1 c j fun a c=>?_)));obtain ⟨hc,ci,f⟩:=bd f
      obtain ⟨d3,rfl⟩:=row_ptr 1 d j j (Go ci).2;obtain ⟨hl,hu,gv,fz⟩:=Rt dq (Go ci).2;obtain rfl:=rep_int.1 gv
      refine L d c j (I q (Ro (Go ci).1 (Go ci).2 d3 1) j j j) j fun a c=>L d c j (f_loadR q 1 j fz 0 j j j j (Rl dq (Go ci).2)) j fun a c=>R q 2 c j fun a c=>E (T (Cc (b:=!decide (hc=e1)) c j (fun d6=>?_) (fun d6=>?_)))
      · replace f:=ct d6 f;refine c_goto (xBg (xTg (xTg (xBg (xTg (xTg (xSg ?_)))))));cases f;obtain rfl:=Nr a6;have f:=Le el;cases f
        exact ⟨ef,Nat.lt_succ_self _,_,bg,(p_ d3),b6,ca,a5,((ep.t d9).t et),c.kp j,d,dq⟩
      replace f:=cf d6 f;refine K (xB (T (G (R q 2 c j fun a c=>E (T ?_)))));cases f;have c:=c.setI (t:=65) j (Wc ec gl)
      exact ⟨aw.length,Nat.lt_succ_self _,i8511 + 1,aw,_,bg,(p_ d3),b6,ca,j,ec,dt,a6,(d9.t et),c.kp j,d,dq⟩
    
    refine O (Q c d (fun e L n' a' w'=>∃ i8838 ax aa bf bz bj a3,n'=List.length ax∧i8838≤am.length∧am.drop i8838=ax∧forL (lattice_Lattice_edges.b4 k e1 i8511) i8838 ax aa=some ez∧ap.le bf∧Env a' 151 (sl e [0,11,12,64,65,79] [(80,i_ (i8838:Int))])∧Inv u h o bf [.blk m ([u2,.map l,.slice bz aa.length bj,.slice n g.down_.length p] ++ (arCells .i64 256 g.join_ ++ (arCells .i64 256 g.meet_ ++ []))) 160,.row (.slice bz aa.length bj) 155 1 aa.length a3,nt L 2] w'∧RL bf 1 (aa.map (D.int .u32)) a3) _ ⟨0,_,_,ap,(p_ eg),b3,b7,j,Nat.zero_le _,j,bn,rf,c.kp j,d,dp⟩ ?_)
    rintro h6 a w ⟨i8838,ax,aa,bf,bz,bj,a3,rfl,gg,du,bn,es,c,d,ak⟩;rcases ax with _ | ⟨ij,ax⟩
    · obtain rfl:=Fn bn;have ed:=Do du gg;refine S (G (R q 1 c j fun a c=>E (T (S ?_))));have c:=c.tr (t:=81) j (decide_eq_false (by omega))
      refine Fa c j (Ex (Xe (Xe (Xh (T (⟨_,bf,bz,bj,a3,j,es,c.kp j,d,ak⟩))))))
    obtain ⟨id,f,bn⟩:=Fs bn;obtain ⟨h2,du,ed⟩:=Dc du;unfold lattice_Lattice_edges.b4 at f;refine S (G (R q 1 c j fun a c=>E (T (S ?_))))
    have c:=c.tr (t:=81) j (decide_eq_true (by omega));refine Tr c j (K (T (S ?_)));obtain ⟨dx,f,fp⟩:=bd f
    refine X c d (fun e L a' w'=>∃ b1 c0 db dn,bf.le b1∧Env a' 151 (sl e [0,11,12,64,65,79,80] [])∧Inv u h o b1 [.blk m ([u2,.map l,.slice c0 dx.length db,.slice n g.down_.length p] ++ (arCells .i64 256 g.join_ ++ (arCells .i64 256 g.meet_ ++ []))) 160,.row (.slice c0 dx.length db) 155 1 dx.length dn,nt L 2] w'∧RL b1 1 (dx.map (D.int .u32)) dn) ?_ ?_
    rotate_left
    · rintro a w ⟨b1,c0,db,dn,gc,c,d,fo⟩;have f:=fp;refine T (G (R q 2 c j fun a c=>E (T ?_)));cases f;have c:=c.setI (t:=80) j (Wc ed gm)
      exact ⟨ax.length,Nat.lt_succ_self _,i8838 + 1,ax,_,b1,c0,db,dn,j,ed,du,bn,(es.t gc),c.kp j,d,fo⟩
    refine O (S (G (R q 2 c j fun a c=>E (T (S (G (R q 2 c j fun a c=>?_)))))));obtain ⟨hd,g7,f⟩:=bd f
    refine J cl_62 d c j j ((lattice_set_has.ok k) g7 d.pass0 ) j ?_;rintro a w _ d0 _ ⟨rfl,rfl⟩ ae d c;refine E (T (Cc (b:=hd) c j (fun d7=>?_) (fun d7=>?_)))
    rotate_left
    · replace f:=cf d7 f;refine K (xB (T ?_));cases f;exact ⟨d0,bz,bj,a3,ae,c.kp j,d,(ak.m ae)⟩
    replace f:=ct d7 f
    refine Mx [0,1] [16] (.step 0 0 (.step 1 0 (.step 2 0 (.step 3 1 (.step 4 0 (.step 5 0 (.step 6 1 (.step 7 0 (.step 8 0 (.step 9 0 (.step 10 1 (.step 11 0 (.step 12 0 (.step 13 1 (.step 14 0 (.step 15 0 (.step 16 3 .nil))))))))))))))))) mixed (mixF_all (by kernel_rfl)) d (by decide) j fun w d hS=>H q 3 c j fun a c=>Dd hS c j j (Rw fun _=>(B q 0 j j j j)) j fun a c=>H q 1 c j fun a c=>?_
    obtain ⟨a9,cj,f⟩:=bd f;obtain ⟨c1,rfl⟩:=row_ptr 1 d j j (Go cj).2;obtain ⟨hm,hv,gw,f0⟩:=Rt (ak.m ae) (Go cj).2
    obtain rfl:=rep_int.1 gw
    refine Dr c j j (I q (Ro (Go cj).1 (Go cj).2 c1 1) j j j) j fun a c=>Dd hS c j j (Rw fun _=>(f_loadR q 1 j f0 0 j j j j (Rl (ak.m ae) (Go cj).2))) j fun a c=>H q 3 c j fun a c=>Dd hS c j j (Rw fun _=>(B q 0 j j j j)) j fun a c=>H q 1 c j fun a c=>?_
    obtain ⟨ba,dw,f⟩:=bd f;obtain ⟨hn,hw,gx,f1⟩:=Rt (ak.m ae) (Go dw).2;obtain rfl:=rep_int.1 gx
    refine Dr c j j (I q (Ro (Go dw).1 (Go dw).2 c1 1) j j j) j fun a c=>Dd hS c j j (Rw fun _=>(f_loadR q 1 j f1 0 j j j j (Rl (ak.m ae) (Go dw).2))) j fun a c=>H q 1 c j fun a c=>?_
    obtain ⟨im,ck,f⟩:=bd f;obtain ⟨ho,f6,gy,f2⟩:=Rt (ak.m ae) (Go ck).2;obtain rfl:=rep_int.1 gy
    refine Dr c j j (I q (Ro (Go ck).1 (Go ck).2 c1 1) j j j) j fun a c=>Dl j (s_storeS (xs:=aa) (j:=(i8511:Int)) (y':=IntKind.wrap .u32 ((BitVec.ofInt (IntKind.bits .u32) a9) ||| (BitVec.ofInt (IntKind.bits .u32) ba)).toNat) q 1 d c j j f2 f6 (Rl (ak.m ae) (Go ck).2) 0 j j j j j j j j fun a w c gn d=>?_)
    have fq:RL d0 1 ((setO aa (i8511:Int) (IntKind.wrap .u32 ((BitVec.ofInt (IntKind.bits .u32) a9) ||| (BitVec.ofInt (IntKind.bits .u32) ba)).toNat)).map (D.int .u32)) (putAt a3 ((i8511:Int).toNat * 1) [.int .u32 (IntKind.wrap .u32 ((BitVec.ofInt (IntKind.bits .u32) a9) ||| (BitVec.ofInt (IntKind.bits .u32) ba)).toNat)]):=RL.set (ak.m ae) (row_lt (Go ck).2) (rep_int.2 j) gn
    have c:=c.setV (t:=89) j (Ss (xs:=aa) (j:=(i8511:Int)) (y':=IntKind.wrap .u32 ((BitVec.ofInt (IntKind.bits .u32) a9) ||| (BitVec.ofInt (IntKind.bits .u32) ba)).toNat))
    have c:=c.setV (t:=96) j (Ss (xs:=aa) (j:=(i8511:Int)) (y':=IntKind.wrap .u32 ((BitVec.ofInt (IntKind.bits .u32) a9) ||| (BitVec.ofInt (IntKind.bits .u32) ba)).toNat))
    rw [Ss (xs:=aa) (j:=(i8511:Int)) (y':=IntKind.wrap .u32 ((BitVec.ofInt (IntKind.bits .u32) a9) ||| (BitVec.ofInt (IntKind.bits .u32) ba)).toNat)] at d;refine Dn (Dz (xB (T ?_)));cases f
    exact ⟨d0,(p_ c1),bj,(putAt a3 ((i8511:Int).toNat * 1) [.int .u32 (IntKind.wrap .u32 ((BitVec.ofInt (IntKind.bits .u32) a9) ||| (BitVec.ofInt (IntKind.bits .u32) ba)).toNat)]),ae,c.kp j,d,fq⟩
  rintro a w ⟨an,a0,cq,c4,df,rfl,f9,c,d,ff⟩;have f:=Lg el
  refine T (S (S (G (R q 3 c j fun a c=>L d c j (B q 0 j j j j) j fun a c=>R q 2 c j fun a c=>E (T ?_)))));have gi:=d.rle (xs:=an) 1 j
  obtain ⟨ex,bl,e9⟩:=bd f
  refine X c d (fun e L a' w'=>∃ af b0 cr c5 dg cu c6 dh,ex = .go af∧a0.le b0∧Env a' 151 []∧Inv u h o b0 [.blk m ([u2,.map l,.slice cr af.1.length c5,.slice cu af.2.length c6] ++ (arCells .i64 256 g.join_ ++ (arCells .i64 256 g.meet_ ++ []))) 160,.row (.slice cr af.1.length c5) 155 1 af.1.length dg,.row (.slice cu af.2.length c6) 155 1 af.2.length dh] w'∧RL b0 1 (af.1.map (D.int .u32)) dg∧RL b0 1 (af.2.map (D.int .u32)) dh) ?_ ?_
  rotate_left
  · rintro a w ⟨af,b0,cr,c5,dg,cu,c6,dh,rfl,hy,c,d,fg,fh⟩;have f:=Lg e9;refine T (S (G (R q 1 c j fun a c=>E (T (V (xSr ?_))))))
    cases f;obtain rfl:=Wr a5;have f:=Le e8;cases f;refine N (v:=_) c j ⟨_,_,_,j,d,cr,c5,dg,cu,c6,dh,j,j,fg,fh⟩
  
  refine O (Q c d (fun e L n' a' w'=>∃ i8030 au z ai bv b4 b8 bw b5 b9,n'=List.length au∧i8030≤an.length∧an.drop i8030=au∧forL (lattice_Lattice_edges.b1 k) i8030 au z=some ex∧a0.le ai∧Env a' 151 (sl e [0,117] [(118,i_ (i8030:Int))])∧Inv u h o ai [.blk m ([u2,.map l,.slice bv z.1.length b4,.slice bw z.2.length b5] ++ (arCells .i64 256 g.join_ ++ (arCells .i64 256 g.meet_ ++ []))) 160,.row (.slice bv z.1.length b4) 155 1 z.1.length b8,.row (.slice bw z.2.length b5) 155 1 z.2.length b9] w'∧RL ai 1 (z.1.map (D.int .u32)) b8∧RL ai 1 (z.2.map (D.int .u32)) b9) _ ⟨0,_,_,a0,cq,c4,df,n,p,dc,j,Nat.zero_le _,j,bl,rf,c.kp j,d,ff,(em.m ((f8.t ep).t f9))⟩ ?_)
  rintro h3 a w ⟨i8030,au,z,ai,bv,b4,b8,bw,b5,b9,rfl,gd,dr,bl,eq,c,d,en,eo⟩;rcases au with _ | ⟨ig,au⟩
  · obtain rfl:=Fn bl;have ea:=Do dr gd;refine S (G (R q 1 c j fun a c=>E (T (S ?_))));have c:=c.tr (t:=119) j (decide_eq_false (by omega))
    refine Fa c j (Ex (Xe (Xe (Xh (T (⟨_,ai,bv,b4,b8,bw,b5,b9,j,eq,c.kp j,d,en,eo⟩))))))
  obtain ⟨ia,f,bl⟩:=Fs bl;obtain ⟨hz,dr,ea⟩:=Dc dr;unfold lattice_Lattice_edges.b1 at f;refine S (G (R q 1 c j fun a c=>E (T (S ?_))))
  have c:=c.tr (t:=119) j (decide_eq_true (by omega))
  refine Tr c j (K (T (S (O (S (G (R q 2 c j fun a c=>E (T (S (G (R q 3 c j fun a c=>L d c j (B q 0 j j j j) j fun a c=>R q 2 c j fun a c=>E (T ?_))))))))))))
  have gj:=d.rle (xs:=z.1) 1 j;obtain ⟨ey,bm,fa⟩:=bd f
  refine X c d (fun e L a' w'=>∃ ag bc cw c7 dj cx c8 dk,ey = .go ag∧ai.le bc∧Env a' 151 (sl e [0,117,118] [])∧Inv u h o bc [.blk m ([u2,.map l,.slice cw ag.1.length c7,.slice cx ag.2.length c8] ++ (arCells .i64 256 g.join_ ++ (arCells .i64 256 g.meet_ ++ []))) 160,.row (.slice cw ag.1.length c7) 155 1 ag.1.length dj,.row (.slice cx ag.2.length c8) 155 1 ag.2.length dk] w'∧RL bc 1 (ag.1.map (D.int .u32)) dj∧RL bc 1 (ag.2.map (D.int .u32)) dk) ?_ ?_
  rotate_left
  · rintro a w ⟨ag,bc,cw,c7,dj,cx,c8,dk,rfl,ga,c,d,fi,fj⟩;have f:=Lg fa;refine xB (T (G (R q 2 c j fun a c=>E (T ?_))));cases f
    have c:=c.setI (t:=118) j (Wc ea gi)
    exact ⟨au.length,Nat.lt_succ_self _,i8030 + 1,au,_,bc,cw,c7,dj,cx,c8,dk,j,ea,dr,bl,(eq.t ga),c.kp j,d,fi,fj⟩
  
  refine O (Q c d (fun e L n' a' w'=>∃ i8371 av s a1 cv bh bk bx bi a2,n'=List.length av∧i8371≤z.1.length∧z.1.drop i8371=av∧forL (lattice_Lattice_edges.b2 k i8030) i8371 av s=some ey∧ai.le a1∧Env a' 151 (sl e [0,14,117,118,125] [(126,i_ (i8371:Int))])∧Inv u h o a1 [.blk m ([u2,.map l,.slice cv s.1.length bh,.slice bx s.2.length bi] ++ (arCells .i64 256 g.join_ ++ (arCells .i64 256 g.meet_ ++ []))) 160,.row (.slice cv s.1.length bh) 155 1 s.1.length bk,.row (.slice bx s.2.length bi) 155 1 s.2.length a2] w'∧RL a1 1 (s.1.map (D.int .u32)) bk∧RL a1 1 (s.2.map (D.int .u32)) a2) _ ⟨0,_,_,ai,bv,b4,b8,bw,b5,b9,j,Nat.zero_le _,j,bm,rf,c.kp j,d,en,eo⟩ ?_)
  rintro h4 a w ⟨i8371,av,s,a1,cv,bh,bk,bx,bi,a2,rfl,ge,ds,bm,er,c,d,cb,a8⟩;rcases av with _ | ⟨ih,av⟩
  · obtain rfl:=Fn bm;have eb:=Do ds ge;refine S (G (R q 1 c j fun a c=>E (T (S ?_))));have c:=c.tr (t:=127) j (decide_eq_false (by omega))
    refine Fa c j (Ex (Xe (Xe (Xh (T (⟨_,a1,cv,bh,bk,bx,bi,a2,j,er,c.kp j,d,cb,a8⟩))))))
  obtain ⟨ib,f,bm⟩:=Fs bm;obtain ⟨h0,ds,eb⟩:=Dc ds;unfold lattice_Lattice_edges.b2 at f;refine S (G (R q 1 c j fun a c=>E (T (S ?_))))
  have c:=c.tr (t:=127) j (decide_eq_true (by omega));refine Tr c j (K (T (S ?_)));obtain ⟨ar,f,fm⟩:=bd f
  refine X c d (fun e L a' w'=>∃ be cy c9 dl cz da dm,a1.le be∧Env a' 151 (sl e [0,14,117,118,125,126] [])∧Inv u h o be [.blk m ([u2,.map l,.slice cy ar.1.length c9,.slice cz ar.2.length da] ++ (arCells .i64 256 g.join_ ++ (arCells .i64 256 g.meet_ ++ []))) 160,.row (.slice cy ar.1.length c9) 155 1 ar.1.length dl,.row (.slice cz ar.2.length da) 155 1 ar.2.length dm] w'∧RL be 1 (ar.1.map (D.int .u32)) dl∧RL be 1 (ar.2.map (D.int .u32)) dm) ?_ ?_
  rotate_left
  · rintro a w ⟨be,cy,c9,dl,cz,da,dm,gb,c,d,fk,fl⟩;have f:=fm;refine T (G (R q 2 c j fun a c=>E (T ?_)));cases f
    have c:=c.setI (t:=126) j (Wc eb gj)
    exact ⟨av.length,Nat.lt_succ_self _,i8371 + 1,av,_,be,cy,c9,dl,cz,da,dm,j,eb,ds,bm,(er.t gb),c.kp j,d,fk,fl⟩
  
  refine O (S (G (R q 2 c j fun a c=>E (T (S (G (R q 3 c j fun a c=>L d c j (B q 0 j j j j) j fun a c=>R q 1 c j fun a c=>?_)))))))
  obtain ⟨ik,cd,f⟩:=bd f;obtain ⟨d1,rfl⟩:=row_ptr 1 d j j (Go cd).2;obtain ⟨hh,hr,gr,fv⟩:=Rt cb (Go cd).2;obtain rfl:=rep_int.1 gr
  refine L d c j (I q (Ro (Go cd).1 (Go cd).2 d1 1) j j j) j fun a c=>L d c j (f_loadR q 1 j fv 0 j j j j (Rl cb (Go cd).2)) j fun a c=>R q 1 c j fun a c=>?_
  obtain ⟨hb,g6,f⟩:=bd f;refine J cl_62 d c j j ((lattice_set_has.ok k) g6 d.pass0 ) j ?_;rintro a w _ dz _ ⟨rfl,rfl⟩ ad d c
  refine E (T (Cc (b:=hb) c j (fun d5=>?_) (fun d5=>?_)));rotate_left
  · replace f:=cf d5 f;refine K (xB (T ?_));cases f;exact ⟨dz,(p_ d1),bh,bk,bx,bi,a2,ad,c.kp j,d,(cb.m ad),(a8.m ad)⟩
  replace f:=ct d5 f
  refine Mx [0,2] [11] (.step 0 0 (.step 1 0 (.step 2 0 (.step 3 1 (.step 4 0 (.step 5 0 (.step 6 1 (.step 7 0 (.step 8 0 (.step 9 0 (.step 10 0 (.step 11 3 .nil)))))))))))) mixed (mixF_all (by kernel_rfl)) d (by decide) j fun w d hS=>H q 3 c j fun a c=>Dd hS c j j (Rw fun _=>(B q 0 j j j j)) j fun a c=>H q 1 c j fun a c=>?_
  obtain ⟨br,ce,f⟩:=bd f;obtain ⟨d2,rfl⟩:=row_ptr 2 d j j (Go ce).2;obtain ⟨hi,hs,gs,fw⟩:=Rt (a8.m ad) (Go ce).2
  obtain rfl:=rep_int.1 gs
  refine Dr c j j (I q (Ro (Go ce).1 (Go ce).2 d2 1) j j j) j fun a c=>Dd hS c j j (Rw fun _=>(f_loadR q 1 j fw 0 j j j j (Rl (a8.m ad) (Go ce).2))) j fun a c=>H q 1 c j fun a c=>?_
  obtain ⟨bt,g8,f⟩:=bd f;refine Dr c j j (f_shl j j g8) j fun a c=>H q 1 c j fun a c=>?_;obtain ⟨il,cg,f⟩:=bd f
  obtain ⟨hj,f5,gt,fx⟩:=Rt (a8.m ad) (Go cg).2;obtain rfl:=rep_int.1 gt
  refine Dr c j j (I q (Ro (Go cg).1 (Go cg).2 d2 1) j j j) j fun a c=>Dl j (s_storeS (xs:=s.2) (j:=(i8371:Int)) (y':=IntKind.wrap .u32 ((BitVec.ofInt (IntKind.bits .u32) br) ||| (BitVec.ofInt (IntKind.bits .u32) bt)).toNat) q 2 d c j j fx f5 (Rl (a8.m ad) (Go cg).2) 0 j j j j j j j j fun a w c gk d=>?_)
  have fn:RL dz 1 ((setO s.2 (i8371:Int) (IntKind.wrap .u32 ((BitVec.ofInt (IntKind.bits .u32) br) ||| (BitVec.ofInt (IntKind.bits .u32) bt)).toNat)).map (D.int .u32)) (putAt a2 ((i8371:Int).toNat * 1) [.int .u32 (IntKind.wrap .u32 ((BitVec.ofInt (IntKind.bits .u32) br) ||| (BitVec.ofInt (IntKind.bits .u32) bt)).toNat)]):=RL.set (a8.m ad) (row_lt (Go cg).2) (rep_int.2 j) gk
  have c:=c.setV (t:=141) j (Ss (xs:=s.2) (j:=(i8371:Int)) (y':=IntKind.wrap .u32 ((BitVec.ofInt (IntKind.bits .u32) br) ||| (BitVec.ofInt (IntKind.bits .u32) bt)).toNat))
  rw [Ss (xs:=s.2) (j:=(i8371:Int)) (y':=IntKind.wrap .u32 ((BitVec.ofInt (IntKind.bits .u32) br) ||| (BitVec.ofInt (IntKind.bits .u32) bt)).toNat)] at d;refine Dn (Dz (xB (T ?_)));cases f
  exact ⟨dz,(p_ d1),bh,bk,(p_ d2),bi,(putAt a2 ((i8371:Int).toNat * 1) [.int .u32 (IntKind.wrap .u32 ((BitVec.ofInt (IntKind.bits .u32) br) ||| (BitVec.ofInt (IntKind.bits .u32) bt)).toNat)]),ad,c.kp j,d,(cb.m ad),fn⟩

theorem cl_110:Callable Tryz.prog 110:=⟨_,Tryz.func110,by kernel_rfl,by kernel_rfl⟩

def lattice_least.C (s:Int→(List Int)→Option Int):Prop:=∀ {g d r},s g d=some r→∀ {c b e f},Inv c b [] b [] c→(Sl b e f 1 (d.map (D.int .u32)))→Calls Tryz.prog 110 #[.int .u32 g,.slice e d.length f] c (Ret c b [] fun G' L' v=>L'=[]∧v=i_ r)

theorem lattice_least.ok (k:Nat):lattice_least.C (lattice_least k):=by
  intro aq af r d y i au aw f aa
  unfold lattice_least at d
  refine Ci 25 Tryz.func110 j j j fun a c=>?_
  refine S (G (R q 1 c j fun a c=>E (T (S (S (G (R q 3 c j fun a c=>E (T ?_))))))));obtain ⟨ae,h,ab⟩:=bd d
  refine X c f (fun e L a' w'=>∃ ah p,ae = .go ah∧i.le p∧Env a' 25 []∧Inv y i [] p L w') ?_ ?_;rotate_left
  · rintro a w ⟨ah,p,rfl,ax,c,f⟩;have d:=Lg ab;refine T (S (G (R q 1 c j fun a c=>E (T (V ?_)))));cases d;refine N (v:=_) c j ⟨_,_,_,j,f.nil,j,j⟩
  
  refine O (Q c f (fun e L n' a' w'=>∃ i42 g ag l,n'=List.length g∧i42≤af.length∧af.drop i42=g∧forL (lattice_least.b0 k aq) i42 g ag=some ae∧i.le l∧Env a' 25 (sl e [0,7,8] [(9,i_ (i42:Int))])∧Inv y i [] l L w') _ ⟨0,_,_,i,j,Nat.zero_le _,j,h,rf,c.kp j,f⟩ ?_)
  rintro ay a w ⟨i42,g,ag,l,rfl,an,o,h,u,c,f⟩;rcases g with _ | ⟨a1,g⟩
  · obtain rfl:=Fn h;have x:=Do o an;refine S (G (R q 1 c j fun a c=>E (T (S ?_))));have c:=c.tr (t:=10) j (decide_eq_false (by omega))
    refine Fa c j (Ex (Xe (Xe (Xh (T (⟨_,l,j,u,c.kp j,f⟩))))))
  obtain ⟨a0,d,h⟩:=Fs h;obtain ⟨ao,o,x⟩:=Dc o;unfold lattice_least.b0 at d;refine S (G (R q 1 c j fun a c=>E (T (S ?_))))
  have c:=c.tr (t:=10) j (decide_eq_true (by omega));refine Tr c j (K (T (S (O (S (G (R q 1 c j fun a c=>?_)))))))
  obtain ⟨av,az,cs,al,aj,ai⟩:=Sa (aa.m u) (Int.natCast_nonneg _) (natIdx ao);obtain rfl:=rep_int.1 aj
  refine L f c j (I q al j j j) j fun a c=>L f c j (Fg q ai 0 j j j j) j fun a c=>R q 2 c j fun a c=>E (T (S ?_))
  obtain ⟨ad,d,ak⟩:=bd d;refine X c f (fun e L a' w'=>∃ n,l.le n∧Env a' 25 (sl e [0,5,7,8,9] [(22,.bool ad)])∧Inv y i [] n L w') ?_ ?_
  · refine G (R q 2 c j fun a c=>?_);obtain ⟨ar,ap,d⟩:=bd d;refine J cl_62 f c j j ((lattice_set_has.ok k) ap f.pass0 ) j ?_;rintro a w _ z _ ⟨rfl,rfl⟩ ac f c
    refine R q 1 c j fun a c=>?_;rcases Bo ar with m | m
    · replace d:=ct m d;have c:=c.tr (t:=17) j m;refine R q 5 c j fun a c=>E (T ?_);cases d;exact ⟨z,ac,c.kp j,f⟩
    replace d:=cf m d;have c:=c.tr (t:=17) j m;refine R q 5 c j fun a c=>E (T ?_);cases d;exact ⟨z,ac,c.kp j,f⟩
  rintro a w ⟨n,am,c,f⟩;have d:=ak;refine T (Cc (b:=ad) c j (fun s=>?_) (fun s=>?_));rotate_left
  · replace d:=cf s d;refine K (xB (T (G (R q 2 c j fun a c=>E (T ?_)))));cases d;have c:=c.setI (t:=9) j (Wc x (Ln aa))
    exact ⟨g.length,Nat.lt_succ_self _,i42 + 1,g,_,n,j,x,o,h,(u.t am),c.kp j,f⟩
  replace d:=ct s d;refine S (G (R q 2 c j fun a c=>E (T (V (Xb (Xr (Xr (Xb (Xr (Xr ?_))))))))));cases d;obtain rfl:=Nr h;have d:=Le ab;cases d
  refine N (v:=_) c j ⟨_,_,_,j,f.nil,j,j⟩

theorem cl_69:Callable Tryz.prog 69:=⟨_,Tryz.func69,by kernel_rfl,by kernel_rfl⟩

def lattice_Lattice_tables.C (s:Tlattice_Lattice→Option (Bool × Tlattice_Lattice)):Prop:=∀ {b r},s b=some r→∀ {d c o i f m g h n e l},Inv d c o c [.blk i ([.slice f b.names_.length m,.map g,.slice h b.up_.length n,.slice e b.down_.length l] ++ (arCells .i64 256 b.join_ ++ (arCells .i64 256 b.meet_ ++ []))) 160] d→(Sl c f m 1 (b.names_.map D.str))→(Mp c g false D.str di b.at_)→(Sl c h n 1 (b.up_.map (D.int .u32)))→(Sl c e l 1 (b.down_.map (D.int .u32)))→Calls Tryz.prog 69 #[(P i)] d (Ret d c o fun G' L' v=>L'=[.blk i ([.slice f b.names_.length m,.map g,.slice h b.up_.length n,.slice e b.down_.length l] ++ (arCells .i64 256 r.2.join_ ++ (arCells .i64 256 r.2.meet_ ++ []))) 160]∧v = .bool r.1)

theorem lattice_Lattice_tables.ok (k:Nat):lattice_Lattice_tables.C (lattice_Lattice_tables k):=by
  intro g r d aj m ag aq p y s u z o x f a8 cv ak a0
  unfold lattice_Lattice_tables at d
  refine Ci 118 Tryz.func69 j j j fun a c=>?_
  
  refine S (G (R q 1 c j fun a c=>E (T (S (S (G (R q 3 c j fun a c=>L f c j (B q 0 j j j j) j fun a c=>R q 2 c j fun a c=>E (T ?_))))))))
  obtain ⟨bn,ab,a2⟩:=bd d
  refine X c f (fun e L a' w'=>∃ ax az,bn = .go ax∧m.le az∧Env a' 118 (sl e [0] [])∧Inv aj m ag az [.blk aq ([.slice p g.names_.length y,.map s,.slice u g.up_.length z,.slice o g.down_.length x] ++ (arCells .i64 256 ax.1 ++ (arCells .i64 256 ax.2 ++ []))) 160] w') ?_ ?_
  rotate_left
  · rintro a w ⟨ax,az,rfl,cw,c,f⟩;have d:=Lg a2
    refine T (S (G (R q 3 c j fun a c=>L f c j (B q 0 j j j j) j fun a c=>R q 3 c j fun a c=>E (T (V ?_)))));cases d
    refine N (v:=_) c j ⟨_,_,_,j,f,j,j⟩
  
  refine O (Q c f (fun e L n' a' w'=>∃ i902 ad aw ae,n'=List.length ad∧i902≤g.names_.length∧g.names_.drop i902=ad∧forL (lattice_Lattice_tables.b0 k g) i902 ad aw=some bn∧m.le ae∧Env a' 118 (sl e [0,11] [(12,i_ (i902:Int))])∧Inv aj m ag ae [.blk aq ([.slice p g.names_.length y,.map s,.slice u g.up_.length z,.slice o g.down_.length x] ++ (arCells .i64 256 aw.1 ++ (arCells .i64 256 aw.2 ++ []))) 160] w') _ ⟨0,_,_,m,j,Nat.zero_le _,j,ab,rf,c.kp j,f⟩ ?_)
  rintro c0 a w ⟨i902,ad,aw,ae,rfl,cg,au,ab,l,c,f⟩;rcases ad with _ | ⟨da,ad⟩
  · obtain rfl:=Fn ab;have a7:=Do au cg;refine S (G (R q 1 c j fun a c=>E (T (S ?_))));have c:=c.tr (t:=13) j (decide_eq_false (by omega))
    refine Fa c j (Ex (Xe (Xe (Xh (T (⟨_,ae,j,l,c.kp j,f⟩))))))
  obtain ⟨c8,d,ab⟩:=Fs ab;obtain ⟨cy,au,a7⟩:=Dc au;unfold lattice_Lattice_tables.b0 at d;refine S (G (R q 1 c j fun a c=>E (T (S ?_))))
  have c:=c.tr (t:=13) j (decide_eq_true (by omega))
  refine Tr c j (K (T (S (O (S (G (R q 2 c j fun a c=>E (T (S (G (R q 3 c j fun a c=>L f c j (B q 0 j j j j) j fun a c=>R q 2 c j fun a c=>E (T ?_))))))))))))
  obtain ⟨bm,aa,a1⟩:=bd d
  refine X c f (fun e L a' w'=>∃ av ao,bm = .go av∧ae.le ao∧Env a' 118 (sl e [0,11,12] [])∧Inv aj m ag ao [.blk aq ([.slice p g.names_.length y,.map s,.slice u g.up_.length z,.slice o g.down_.length x] ++ (arCells .i64 256 av.1 ++ (arCells .i64 256 av.2 ++ []))) 160] w') ?_ ?_
  rotate_left
  · rintro a w ⟨av,ao,rfl,cb,c,f⟩;have d:=Lg a1;refine xB (T (G (R q 2 c j fun a c=>E (T ?_))));cases d;have c:=c.setI (t:=12) j (Wc a7 (Ln a8))
    exact ⟨ad.length,Nat.lt_succ_self _,i902 + 1,ad,_,ao,j,a7,au,ab,(l.t cb),c.kp j,f⟩
  
  refine O (Q c f (fun e L n' a' w'=>∃ i1210 ac n ah,n'=List.length ac∧i1210≤g.names_.length∧g.names_.drop i1210=ac∧forL (lattice_Lattice_tables.b1 k i902 g) i1210 ac n=some bm∧ae.le ah∧Env a' 118 (sl e [0,3,11,12,19] [(20,i_ (i1210:Int))])∧Inv aj m ag ah [.blk aq ([.slice p g.names_.length y,.map s,.slice u g.up_.length z,.slice o g.down_.length x] ++ (arCells .i64 256 n.1 ++ (arCells .i64 256 n.2 ++ []))) 160] w') _ ⟨0,_,_,ae,j,Nat.zero_le _,j,aa,rf,c.kp j,f⟩ ?_)
  rintro cz a w ⟨i1210,ac,n,ah,rfl,ce,ar,aa,i,c,f⟩;rcases ac with _ | ⟨c9,ac⟩
  · obtain rfl:=Fn aa;have a6:=Do ar ce;refine S (G (R q 1 c j fun a c=>E (T (S ?_))));have c:=c.tr (t:=21) j (decide_eq_false (by omega))
    refine Fa c j (Ex (Xe (Xe (Xh (T (⟨_,ah,j,i,c.kp j,f⟩))))))
  obtain ⟨c7,d,aa⟩:=Fs aa;obtain ⟨cx,ar,a6⟩:=Dc ar;unfold lattice_Lattice_tables.b1 at d;refine S (G (R q 1 c j fun a c=>E (T (S ?_))))
  have c:=c.tr (t:=21) j (decide_eq_true (by omega));refine Tr c j (K (T (S (O (S (G (R q 2 c j fun a c=>E (T (S (S ?_))))))))))
  obtain ⟨bk,d,bw⟩:=bd d;refine X c f (fun e L a' w'=>∃ ai,ah.le ai∧Env a' 118 (sl e [0,3,4,11,12,19,20] [(47,.bool bk)])∧Inv aj m ag ai L w') ?_ ?_
  · refine G (R q 4 c j fun a c=>?_);rcases Bo (!decide ((i902:Int)=(i1210:Int))) with am | am;rotate_left
    · replace d:=cf am d;have c:=c.tr (t:=26) j am;refine R q 21 c j fun a c=>E (T ?_);cases d;exact ⟨ah,rf,c.kp j,f⟩
    replace d:=ct am d;have c:=c.tr (t:=26) j am;refine R q 3 c j fun a c=>L f c j (B q 0 j j j j) j fun a c=>R q 1 c j fun a c=>?_
    obtain ⟨df,bi,d⟩:=bd d;obtain ⟨cr,c5,cs,b9,b3,bu⟩:=Sa (ak.m (l.t i)) (Go bi).1 (Go bi).2;obtain rfl:=rep_int.1 b3
    refine L f c j (I q b9 j j j) j fun a c=>L f c j (Fg q bu 0 j j j j) j fun a c=>R q 1 c j fun a c=>?_;obtain ⟨cm,cj,d⟩:=bd d
    refine J cl_62 f c j j ((lattice_set_has.ok k) cj f.pass0 ) j ?_;rintro a w _ bo _ ⟨rfl,rfl⟩ a5 f c;refine R q 2 c j fun a c=>?_;rcases Bo cm with an | an
    rotate_left
    · replace d:=cf an d;have c:=c.tr (t:=37) j an;refine R q 10 c j fun a c=>E (T ?_);cases d;exact ⟨bo,a5,c.kp j,f⟩
    replace d:=ct an d;have c:=c.tr (t:=37) j an;refine R q 3 c j fun a c=>L f c j (B q 0 j j j j) j fun a c=>R q 1 c j fun a c=>?_
    obtain ⟨dg,bj,d⟩:=bd d;obtain ⟨cu,c6,cs,ca,b4,bv⟩:=Sa (ak.m ((l.t i).t a5)) (Go bj).1 (Go bj).2;obtain rfl:=rep_int.1 b4
    refine L f c j (I q ca j j j) j fun a c=>L f c j (Fg q bv 0 j j j j) j fun a c=>R q 1 c j fun a c=>?_;obtain ⟨dh,ck,d⟩:=bd d
    refine J cl_62 f c j j ((lattice_set_has.ok k) ck f.pass0 ) j ?_;rintro a w _ bp _ ⟨rfl,rfl⟩ cd f c;refine R q 1 c j fun a c=>E (T ?_);cases d
    exact ⟨bp,(a5.t cd),c.kp j,f⟩
  rintro a w ⟨ai,af,c,f⟩;have d:=bw;refine T (Cc (b:=bk) c j (fun a4=>?_) (fun a4=>?_))
  · replace d:=ct a4 d;refine S (G (R q 1 c j fun a c=>E (T (V (Xr (Xb (Xr (Xr (Xb (Xr (Xb (Xr (Xr (Xb (Xr (Xr ?_))))))))))))))));cases d;obtain rfl:=Nr aa
    have d:=Le a1;cases d;obtain rfl:=Nr ab;have d:=Le a2;cases d;refine N (v:=_) c j ⟨_,_,_,j,f,j,j⟩
  replace d:=cf a4 d;refine K (T (S (Cd mixed (by kernel_rfl) f (Y q 3 c j fun a c=>Z c j (B q 0 j j j j) j fun a c=>Y q 1 c j fun a c=>?_))))
  obtain ⟨db,be,d⟩:=bd d;obtain ⟨cn,c1,cs,b5,bx,bq⟩:=Sa (ak.m ((l.t i).t af)) (Go be).1 (Go be).2;obtain rfl:=rep_int.1 bx
  refine Z c j (I q b5 j j j) j fun a c=>Z c j (Fg q bq 0 j j j j) j fun a c=>Y q 3 c j fun a c=>Z c j (B q 0 j j j j) j fun a c=>Y q 1 c j fun a c=>?_
  obtain ⟨dc,bf,d⟩:=bd d;obtain ⟨co,c2,cs,b6,bz,br⟩:=Sa (ak.m ((l.t i).t af)) (Go bf).1 (Go bf).2;obtain rfl:=rep_int.1 bz
  refine Z c j (I q b6 j j j) j fun a c=>Z c j (Fg q br 0 j j j j) j fun a c=>Y q 4 c j fun a c=>Z c j (B q 0 j j j j) j fun a c=>?_
  obtain ⟨ay,ch,d⟩:=bd d
  refine Qc cl_110 c j j (fun w f=>(lattice_least.ok k) ch f.pass0 (ak.m ((l.t i).t af))) (fun _ _ _ h=>h.2) j fun a c=>Y q 3 c j fun a c=>Z c j (B q 0 j j j j) j fun a c=>Y q 1 c j fun a c=>?_
  obtain ⟨dd,bg,d⟩:=bd d;obtain ⟨cp,c3,cs,b7,b0,bs⟩:=Sa (a0.m ((l.t i).t af)) (Go bg).1 (Go bg).2;obtain rfl:=rep_int.1 b0
  refine Z c j (I q b7 j j j) j fun a c=>Z c j (Fg q bs 0 j j j j) j fun a c=>Y q 3 c j fun a c=>Z c j (B q 0 j j j j) j fun a c=>Y q 1 c j fun a c=>?_
  obtain ⟨de,bh,d⟩:=bd d;obtain ⟨cq,c4,cs,b8,b1,bt⟩:=Sa (a0.m ((l.t i).t af)) (Go bh).1 (Go bh).2;obtain rfl:=rep_int.1 b1
  refine Z c j (I q b8 j j j) j fun a c=>Z c j (Fg q bt 0 j j j j) j fun a c=>Y q 4 c j fun a c=>Z c j (B q 0 j j j j) j fun a c=>?_
  obtain ⟨cl,ci,d⟩:=bd d
  refine Qc cl_110 c j j (fun w f=>(lattice_least.ok k) ci f.pass0 (a0.m ((l.t i).t af))) (fun _ _ _ h=>h.2) j fun a c=>Y q 2 c j fun a c=>Qe ?_;intro w f
  refine T (S (S ?_));obtain ⟨bl,d,b2⟩:=bd d
  refine X c f (fun e L a' w'=>∃ ap,ai.le ap∧Env a' 118 (sl e [0,3,4,5,6,11,12,19,20] [(93,.bool bl)])∧Inv aj m ag ap L w') ?_ ?_
  · refine G (R q 3 c j fun a c=>?_);rcases Bo (decide (ay < (0:Int))) with al | al
    · replace d:=ct al d;have c:=c.tr (t:=90) j al;refine R q 3 c j fun a c=>E (T ?_);cases d;exact ⟨ai,rf,c.kp j,f⟩
    replace d:=cf al d;have c:=c.tr (t:=90) j al;refine R q 3 c j fun a c=>E (T ?_);cases d;exact ⟨ai,rf,c.kp j,f⟩
  rintro a w ⟨ap,cc,c,f⟩;have d:=b2;refine T (Cc (b:=bl) c j (fun a3=>?_) (fun a3=>?_))
  · replace d:=ct a3 d;refine S (G (R q 1 c j fun a c=>E (T (V (Xr (Xb (Xr (Xr (Xb (Xr (Xb (Xr (Xr (Xb (Xr (Xr ?_))))))))))))))));cases d;obtain rfl:=Nr aa
    have d:=Le a1;cases d;obtain rfl:=Nr ab;have d:=Le a2;cases d;refine N (v:=_) c j ⟨_,_,_,j,f,j,j⟩
  replace d:=cf a3 d
  refine K (T (Mx [] [12,17] (.step 0 0 (.step 1 0 (.step 2 0 (.step 3 0 (.step 4 0 (.step 5 0 (.step 6 0 (.step 7 0 (.step 8 0 (.step 9 0 (.step 10 0 (.step 11 0 (.step 13 0 (.step 14 0 (.step 15 0 (.step 12 3 (.step 16 0 (.step 17 3 .nil)))))))))))))))))) mixed (mixF_all (by kernel_rfl)) f (by decide) j fun w f hS=>H q 10 c j fun a c=>?_))
  obtain ⟨_,a9,d⟩:=bd d;refine Dr c j j (f_aidx q ua_158 j j j j a9) j fun a c=>?_;obtain ⟨_,ba,d⟩:=bd d
  refine Dr c j j (f_aidx q ua_157 j j j j ba) j fun a c=>H q 2 c j fun a c=>?_;obtain ⟨_,bb,d⟩:=bd d
  refine Dr c j j (f_aidx q ua_158 j j j j bb) j fun a c=>Dl j (W q 0 f c j j j j j j j j (cs':=([.slice p g.names_.length y,.map s,.slice u g.up_.length z,.slice o g.down_.length x] ++ (arCells .i64 256 (setA n.1 ((i902:Int).toNat * 16 + (i1210:Int).toNat * 1) ay) ++ (arCells .i64 256 n.2 ++ [])))) (ar_lay2 (pre:=[.slice p g.names_.length y,.map s,.slice u g.up_.length z,.slice o g.down_.length x]) j (by simp [arCells]) (ar_ij a9 ba) j) j fun a w c f=>Dn ?_)
  obtain ⟨_,bc,d⟩:=bd d
  refine Dr c j j (f_aidx q ua_157 j j j j bc) j fun a c=>Dl j (W q 0 f c j j j j j j j j (cs':=([.slice p g.names_.length y,.map s,.slice u g.up_.length z,.slice o g.down_.length x] ++ (arCells .i64 256 (setA n.1 ((i902:Int).toNat * 16 + (i1210:Int).toNat * 1) ay) ++ (arCells .i64 256 (setA n.2 ((i902:Int).toNat * 16 + (i1210:Int).toNat * 1) cl) ++ [])))) (ar_lay2 (pre:=([.slice p g.names_.length y,.map s,.slice u g.up_.length z,.slice o g.down_.length x] ++ (arCells .i64 256 (setA n.1 ((i902:Int).toNat * 16 + (i1210:Int).toNat * 1) ay) ++ []))) j (by simp [arCells]) (ar_ij bb bc) j) j fun a w c f=>Dn (Dz (xB (T (G (R q 2 c j fun a c=>E (T ?_)))))))
  cases d;have c:=c.setI (t:=20) j (Wc a6 (Ln a8))
  exact ⟨ac.length,Nat.lt_succ_self _,i1210 + 1,ac,_,ap,j,a6,ar,aa,((i.t af).t cc),c.kp j,f⟩

theorem cl_38:Callable Tryz.prog 38:=⟨_,Tryz.func38,by kernel_rfl,by kernel_rfl⟩

def lattice_New.C (s:(List ByteArray)→(List TPair)→Option ((Option Tlattice_Lattice) × Int)):Prop:=∀ {d e r},s d e=some r→∀ {c b g i h l},Inv c b [] b [] c→(Sl b g i 1 (d.map D.str))→(Sl b h l 2 (e.map TPair.d))→Calls Tryz.prog 38 #[.slice g d.length i,.slice h e.length l] c (Ret c b [] fun G' L' v=>L'=[]∧∃ f,v = .tuple ⟨[.pointer f,i_ r.2]⟩∧Pt G' f 160 Tlattice_Lattice.d r.1)
end Go.Proofs.YtknhbphhdfknaaaGreatDoor
