/- The contracts: what the machine does at a call is what the plain function says. Written by mk.py. -/
import Derived.Test.YtknhbphhdfknaaaGreatDoorCgT6
set_option linter.unusedVariables false
set_option linter.unusedSimpArgs false
set_option maxRecDepth 100000
namespace Go.Proofs.YtknhbphhdfknaaaGreatDoor
open Go.RowKit
theorem ref03_New.ok (k:Nat):ref03_New.C (ref03_New k):=by
  intro i bw r d n m jh j4 ji j5 g o bm
  unfold ref03_New at d
  refine Ci 192 Tryz.func41 j j j fun a c=>?_
  refine S (G (R q 2 c j fun a c=>E (T (S (S ?_)))));obtain ⟨fd,d,gw⟩:=bd d
  refine X c g (fun e L a' w'=>∃ bf,m.le bf∧Env a' 192 (sl e [0,1] [(24,.bool fd)])∧Inv n m [] bf L w') ?_ ?_
  · refine G (R q 4 c j fun a c=>?_);rcases Bo (decide ((16:Int) < (i.length:Int))) with co | co
    · replace d:=ct co d;have c:=c.tr (t:=20) j co;refine R q 4 c j fun a c=>E (T ?_);cases d;exact ⟨m,rf,c.kp j,g⟩
    replace d:=cf co d;have c:=c.tr (t:=20) j co;refine R q 4 c j fun a c=>E (T ?_);cases d;exact ⟨m,rf,c.kp j,g⟩
  rintro a w ⟨bf,s,c,g⟩;have d:=gw;refine T (Cc (b:=fd) c j (fun eg=>?_) (fun eg=>?_))
  · replace d:=ct eg d;refine S (G (R q 2 c j fun a c=>E (T (V (Xr ?_)))));cases d;refine N (v:=_) c j ⟨_,_,_,j,g.nil,j,none,j,Pn⟩
  replace d:=cf eg d;refine K (T (S (S (G (R q 1 c j fun a c=>E (T ?_))))));obtain ⟨fn,a8,ez⟩:=bd d
  refine X c g (fun e L a' w'=>∃ fr bg,fn = .go fr∧bf.le bg∧Env a' 192 (sl e [0,1] [])∧Inv n m [] bg L w') ?_ ?_
  ·
    refine O (Q c g (fun e L n' a' w'=>∃ i6355 a0 fq an,n'=List.length a0∧i6355≤i.length∧i.drop i6355=a0∧forL (ref03_New.b6 k i) i6355 a0 fq=some fn∧bf.le an∧Env a' 192 (sl e [0,1] [(6,i_ (i6355:Int))])∧Inv n m [] an L w') _ ⟨0,_,_,bf,j,Nat.zero_le _,j,a8,rf,c.kp j,g⟩ ?_)
    rintro kt a w ⟨i6355,a0,fq,an,rfl,iw,dw,a8,bu,c,g⟩;rcases a0 with _ | ⟨fs,a0⟩
    · obtain rfl:=Fn a8;have ep:=Do dw iw;refine S (S (G (R q 4 c j fun a c=>E (T ?_))));have c:=c.tr (t:=28) j (decide_eq_false (by omega))
      refine Fa c j (Ex (Xe (Xe (Xh (T (⟨_,an,j,bu,c.kp j,g⟩))))))
    obtain ⟨k9,d,a8⟩:=Fs a8;obtain ⟨eq,dw,ep⟩:=Dc dw;unfold ref03_New.b6 at d;refine S (S (G (R q 4 c j fun a c=>E (T ?_))))
    have c:=c.tr (t:=28) j (decide_eq_true (by omega));refine Tr c j (K (T (S (O (S ?_)))));obtain ⟨fg,d,hn⟩:=bd d
    refine X c g (fun e L a' w'=>∃ c8,an.le c8∧Env a' 192 (sl e [0,1,6] [(54,.bool fg)])∧Inv n m [] c8 L w') ?_ ?_;rotate_left
    · rintro a w ⟨c8,io,c,g⟩;have d:=hn;refine T (Cc (b:=fg) c j (fun ef=>?_) (fun ef=>?_));rotate_left
      · replace d:=cf ef d;refine K (xB (T (G (R q 3 c j fun a c=>E (T ?_)))));cases d;have c:=c.setI (t:=6) j (Wc ep (Ln o))
        exact ⟨a0.length,Nat.lt_succ_self _,i6355 + 1,a0,_,c8,j,ep,dw,a8,(bu.t io),c.kp j,g⟩
      replace d:=ct ef d;refine S (G (R q 2 c j fun a c=>E (T (V (Xb (Xr (Xr (Xb (Xr (Xr ?_))))))))));cases d;obtain rfl:=Nr a8;have d:=Le ez;cases d
      refine N (v:=_) c j ⟨_,_,_,j,g.nil,j,none,j,Pn⟩
    refine Cd mixed (by kernel_rfl) g (Y q 2 c j fun a c=>?_);obtain ⟨j1,k0,cs,h0,ho,gq⟩:=Sa (o.m (s.t bu)) (Int.natCast_nonneg _) (natIdx eq)
    obtain rfl:=rep_str.1 ho;refine Z c j (I q h0 j j j) j fun a c=>Z c j (Fg q gq 0 j j j j) j fun a c=>Y q 2 c j fun a c=>?_
    rcases Bo (decide (fs=(⟨#[]⟩:ByteArray))) with cm | cm
    · replace d:=ct cm d;have c:=c.tr (t:=36) j cm;refine Y q 18 c j fun a c=>Qe ?_;intro w g;refine T ?_;cases d;exact ⟨an,rf,c.kp j,g⟩
    replace d:=cf cm d;have c:=c.tr (t:=36) j cm;refine Y q 2 c j fun a c=>?_
    obtain ⟨j2,k1,cs,h1,hp,gr⟩:=Sa (o.m (s.t bu)) (Int.natCast_nonneg _) (natIdx eq);obtain rfl:=rep_str.1 hp
    refine Z c j (I q h1 j j j) j fun a c=>Z c j (Fg q gr 0 j j j j) j fun a c=>Y q 4 c j fun a c=>?_
    rcases Bo (decide ((30:Int) < (fs.size:Int))) with cn | cn
    · replace d:=ct cn d;have c:=c.tr (t:=44) j cn;refine Y q 10 c j fun a c=>Qe ?_;intro w g;refine T ?_;cases d;exact ⟨an,rf,c.kp j,g⟩
    replace d:=cf cn d;have c:=c.tr (t:=44) j cn;refine Y q 2 c j fun a c=>?_;obtain ⟨lq,jc,d⟩:=bd d
    obtain ⟨jl,j8,gg,i4⟩:=f_cut (t:=22) (x:=.tmp 45) (lo:=none) (hi:=some (.tmp 46)) q c j (o.m (s.t bu)) j j j jc
    refine Z c j (i4 _) j fun a c=>Y q 2 c j fun a c=>?_;obtain ⟨j3,k2,cs,h2,hq,gs⟩:=Sa (o.m (s.t bu)) (Int.natCast_nonneg _) (natIdx eq)
    obtain rfl:=rep_str.1 hq;refine Z c j (I q h2 j j j) j fun a c=>Z c j (Fg q gs 0 j j j j) j fun a c=>?_;obtain ⟨lp,jb,d⟩:=bd d
    refine Qc cl_81 c j j (fun w g=>(ref03_Find.ok k) jb g.pass0 gg) (fun _ _ _ h=>h.2) j fun a c=>Y q 2 c j fun a c=>Qe ?_;intro w g;refine T ?_;cases d
    exact ⟨an,rf,c.kp j,g⟩
  rintro a w ⟨fr,bg,rfl,ai,c,g⟩;have d:=Lg ez;refine T (S (S (G (R q 1 c j fun a c=>E (T ?_)))));obtain ⟨fh,a7,ey⟩:=bd d
  refine X c g (fun e L a' w'=>∃ fp al,fh = .go fp∧bg.le al∧Env a' 192 (sl e [0,1] [])∧Inv n m [] al L w') ?_ ?_
  ·
    refine O (Q c g (fun e L n' a' w'=>∃ i6300 az fo b8,n'=List.length az∧i6300≤bw.length∧bw.drop i6300=az∧forL (ref03_New.b5 k i) i6300 az fo=some fh∧bg.le b8∧Env a' 192 (sl e [0,1] [(7,i_ (i6300:Int))])∧Inv n m [] b8 L w') _ ⟨0,_,_,bg,j,Nat.zero_le _,j,a7,rf,c.kp j,g⟩ ?_)
    rintro ks a w ⟨i6300,az,fo,b8,rfl,iv,dv,a7,bq,c,g⟩;rcases az with _ | ⟨lg,az⟩
    · obtain rfl:=Fn a7;have eo:=Do dv iv;refine S (S (G (R q 4 c j fun a c=>E (T ?_))));have c:=c.tr (t:=58) j (decide_eq_false (by omega))
      refine Fa c j (Ex (Xe (Xe (Xh (T (⟨_,b8,j,bq,c.kp j,g⟩))))))
    obtain ⟨k8,d,a7⟩:=Fs a7;obtain ⟨fa,dv,eo⟩:=Dc dv;unfold ref03_New.b5 at d;refine S (S (G (R q 4 c j fun a c=>E (T ?_))))
    have c:=c.tr (t:=58) j (decide_eq_true (by omega));refine Tr c j (K (T (S (O (S ?_)))));obtain ⟨ff,d,hk⟩:=bd d
    refine X c g (fun e L a' w'=>∃ c7,b8.le c7∧Env a' 192 (sl e [0,1,7] [(78,.bool ff)])∧Inv n m [] c7 L w') ?_ ?_;rotate_left
    · rintro a w ⟨c7,il,c,g⟩;have d:=hk;refine T (Cc (b:=ff) c j (fun ee=>?_) (fun ee=>?_));rotate_left
      · replace d:=cf ee d;refine K (xB (T (G (R q 3 c j fun a c=>E (T ?_)))));cases d;have c:=c.setI (t:=7) j (Wc eo (Ln bm))
        exact ⟨az.length,Nat.lt_succ_self _,i6300 + 1,az,_,c7,j,eo,dv,a7,(bq.t il),c.kp j,g⟩
      replace d:=ct ee d;refine S (G (R q 2 c j fun a c=>E (T (V (Xb (Xr (Xr (Xb (Xr (Xr ?_))))))))));cases d;obtain rfl:=Nr a7;have d:=Le ey;cases d
      refine N (v:=_) c j ⟨_,_,_,j,g.nil,j,none,j,Pn⟩
    refine G (R q 3 c j fun a c=>?_);obtain ⟨jz,ky,cs,hy,hl,go⟩:=Sa (bm.m ((s.t ai).t bq)) (Int.natCast_nonneg _) (natIdx fa)
    obtain rfl:=TPair.inv.1 hl;refine L g c j (I q hy j j j) j fun a c=>R q 1 c j fun a c=>L g c j (Fg q go 0 j j j j) j fun a c=>?_
    obtain ⟨jg,i9,d⟩:=bd d;refine J cl_81 g c j j ((ref03_Find.ok k) i9 g.pass0 (o.m ((s.t ai).t bq))) j ?_;rintro a w _ f0 _ ⟨rfl,rfl⟩ dz g c
    refine R q 2 c j fun a c=>?_;rcases Bo (decide (jg < (0:Int))) with cl | cl
    · replace d:=ct cl d;have c:=c.tr (t:=69) j cl;refine R q 9 c j fun a c=>E (T ?_);cases d;exact ⟨f0,dz,c.kp j,g⟩
    replace d:=cf cl d;have c:=c.tr (t:=69) j cl;refine R q 3 c j fun a c=>?_
    obtain ⟨j0,kz,cs,hz,hm,gp⟩:=Sa (bm.m (((s.t ai).t bq).t dz)) (Int.natCast_nonneg _) (natIdx fa);obtain rfl:=TPair.inv.1 hm
    refine L g c j (I q hz j j j) j fun a c=>R q 1 c j fun a c=>L g c j (Fg q gp 1 j j j j) j fun a c=>?_;obtain ⟨ln,ja,d⟩:=bd d
    refine J cl_81 g c j j ((ref03_Find.ok k) ja g.pass0 (o.m (((s.t ai).t bq).t dz))) j ?_;rintro a w _ f1 _ ⟨rfl,rfl⟩ im g c
    refine R q 2 c j fun a c=>E (T ?_);cases d;exact ⟨f1,(dz.t im),c.kp j,g⟩
  rintro a w ⟨fp,al,rfl,cp,c,g⟩;have d:=Lg ey;refine T (S (G (R q 3 c j fun a c=>E (T (S (G (Bs ai_22 g c j j j j j fun a w js c g=>?_)))))))
  have gy:RL al 1 (([]:List ByteArray).map D.str) []:=Rn;refine R q 1 c j fun a c=>?_;obtain ⟨_,hr,d⟩:=bd d
  refine s_appG (f:=D.str) (xs:=([]:List ByteArray)) (ys:=i) ai_22 0 g c j j (o.m ((s.t ai).t cp)) j j (Ll hr) j fun a w ab ad j9 c gz g=>?_
  have d7:=Ra gy gz
  refine L g c j (Bd q j z_99 j j) j fun a c=>s_box g c j j j j fun a w aa c g=>R q 1 c j fun a c=>E (T (S (S (G (R q 1 c j fun a c=>E (T ?_))))))
  have g:=g.nilrow 80 1;have gx:RL al 1 (([]:List (List Bool)).map (fun l=>D.sl 1 (l.map D.bool))) []:=Rn;obtain ⟨fi,bn,gt⟩:=bd d
  refine X c g (fun e L a' w'=>∃ bx a1 cx db dh,fi = .go bx∧al.le a1∧Env a' 192 (sl e [8,9] [])∧Inv n m [] a1 [.row (.slice cx bx.length db) 80 1 bx.length dh,.blk aa [.slice ab (([]:List ByteArray) ++ i).length ad,.slice cx bx.length db] 99,nt L 2] w'∧RL a1 1 (bx.map (fun l=>D.sl 1 (l.map D.bool))) dh) ?_ ?_
  rotate_left
  · rintro a w ⟨bx,a1,cx,db,dh,rfl,eh,c,g,g0⟩;have d:=Lg gt
    refine T (S (S (G (R q 2 c j fun a c=>E (T (Cc (b:=decide ((i.length:Int)=(0:Int))) c j (fun ec=>?_) (fun ec=>?_)))))))
    · replace d:=ct ec d;refine S (G (R q 2 c j fun a c=>E (T (V (Xr ?_)))));cases d;refine N (v:=_) c j ⟨_,_,_,j,g.nil,j,none,j,Pn⟩
    replace d:=cf ec d;refine K (T (S (S (G (R q 1 c j fun a c=>E (T ?_))))));obtain ⟨fj,ao,d5⟩:=bd d
    refine X c g (fun e L a' w'=>∃ aj c4 cy dc d2,fj = .go aj∧a1.le c4∧Env a' 192 (sl e [9] [])∧Inv n m [] c4 [.row (.slice cy aj.length dc) 80 1 aj.length d2,.blk aa [.slice ab (([]:List ByteArray) ++ i).length ad,.slice cy aj.length dc] 99,nt L 2] w'∧RL c4 1 (aj.map (fun l=>D.sl 1 (l.map D.bool))) d2) ?_ ?_
    rotate_left
    · rintro a w ⟨aj,c4,cy,dc,d2,rfl,ia,c,g,g1⟩;have d:=Lg d5;refine T (S (G (R q 3 c j fun a c=>E (T ?_))))
      obtain ⟨jm,ib,g,f4⟩:=(g.front 2).giveR (xs:=(([]:List ByteArray) ++ i).map D.str) (by simp) (d7.m (eh.t ia))
      obtain ⟨jn,ic,g,f5⟩:=(g.front 0).giveR (xs:=aj.map (fun l=>D.sl 1 (l.map D.bool))) (by simp) (g1.m ib);obtain ⟨fw,e3,g,gh⟩:=(g.front 0).giveB
      have f6:Pt fw (p_ aa) 99 Tref03_Lattice.d (some (Tref03_Lattice.mk (([]:List ByteArray) ++ i) aj)):=Pm ((Tref03_Lattice.inv (x:=(Tref03_Lattice.mk (([]:List ByteArray) ++ i) aj))).2 ⟨ab,ad,cy,dc,j,(f4.m (ic.t e3)),(f5.m e3)⟩) gh
      refine V ?_;cases d;refine N (v:=_) c j ⟨_,_,_,j,g.nil,j,(p_ aa),j,f6⟩
    
    refine O (Q c g (fun e L n' a' w'=>∃ i4657 au bz am b3 ca ce,n'=List.length au∧i4657≤i.length∧i.drop i4657=au∧forL (ref03_New.b0 k i) i4657 au bz=some fj∧a1.le am∧Env a' 192 (sl e [8,9] [(15,i_ (i4657:Int))])∧Inv n m [] am [.row (.slice b3 bz.length ca) 80 1 bz.length ce,.blk aa [.slice ab (([]:List ByteArray) ++ i).length ad,.slice b3 bz.length ca] 99,nt L 2] w'∧RL am 1 (bz.map (fun l=>D.sl 1 (l.map D.bool))) ce) _ ⟨0,_,_,a1,cx,db,dh,j,Nat.zero_le _,j,ao,rf,c.kp j,g,g0⟩ ?_)
    rintro kn a w ⟨i4657,au,bz,am,b3,ca,ce,rfl,ip,dq,ao,dx,c,g,e1⟩;rcases au with _ | ⟨la,au⟩
    · obtain rfl:=Fn ao;have ej:=Do dq ip;refine S (S (G (R q 3 c j fun a c=>E (T ?_))));have c:=c.tr (t:=144) j (decide_eq_false (by omega))
      refine Fa c j (Ex (Xe (Xe (Xh (T (⟨_,am,b3,ca,ce,j,dx,c.kp j,g,e1⟩))))))
    obtain ⟨k3,d,ao⟩:=Fs ao;obtain ⟨kj,dq,ej⟩:=Dc dq;unfold ref03_New.b0 at d;refine S (S (G (R q 3 c j fun a c=>E (T ?_))))
    have c:=c.tr (t:=144) j (decide_eq_true (by omega));refine Tr c j (K (T (S (O (S (G (R q 1 c j fun a c=>E (T ?_))))))));obtain ⟨fk,ap,d6⟩:=bd d
    refine X c g (fun e L a' w'=>∃ b1 b9 cz dd dj,fk = .go b1∧am.le b9∧Env a' 192 (sl e [8,9,15] [])∧Inv n m [] b9 [.row (.slice cz b1.length dd) 80 1 b1.length dj,.blk aa [.slice ab (([]:List ByteArray) ++ i).length ad,.slice cz b1.length dd] 99,nt L 2] w'∧RL b9 1 (b1.map (fun l=>D.sl 1 (l.map D.bool))) dj) ?_ ?_
    rotate_left
    · rintro a w ⟨b1,b9,cz,dd,dj,rfl,id,c,g,g2⟩;have d:=Lg d6;refine xB (T (G (R q 3 c j fun a c=>E (T ?_))));cases d
      have c:=c.setI (t:=15) j (Wc ej (Ln o))
      exact ⟨au.length,Nat.lt_succ_self _,i4657 + 1,au,_,b9,cz,dd,dj,j,ej,dq,ao,(dx.t id),c.kp j,g,g2⟩
    
    refine O (Q c g (fun e L n' a' w'=>∃ i4992 av b0 ag b4 a4 a5,n'=List.length av∧i4992≤i.length∧i.drop i4992=av∧forL (ref03_New.b1 k i4657 i) i4992 av b0=some fk∧am.le ag∧Env a' 192 (sl e [8,9,15] [(16,i_ (i4992:Int))])∧Inv n m [] ag [.row (.slice b4 b0.length a4) 80 1 b0.length a5,.blk aa [.slice ab (([]:List ByteArray) ++ i).length ad,.slice b4 b0.length a4] 99,nt L 2] w'∧RL ag 1 (b0.map (fun l=>D.sl 1 (l.map D.bool))) a5) _ ⟨0,_,_,am,b3,ca,ce,j,Nat.zero_le _,j,ap,rf,c.kp j,g,e1⟩ ?_)
    rintro ko a w ⟨i4992,av,b0,ag,b4,a4,a5,rfl,iq,dr,ap,dy,c,g,aq⟩;rcases av with _ | ⟨lb,av⟩
    · obtain rfl:=Fn ap;have ek:=Do dr iq;refine S (S (G (R q 3 c j fun a c=>E (T ?_))));have c:=c.tr (t:=149) j (decide_eq_false (by omega))
      refine Fa c j (Ex (Xe (Xe (Xh (T (⟨_,ag,b4,a4,a5,j,dy,c.kp j,g,aq⟩))))))
    obtain ⟨k4,d,ap⟩:=Fs ap;obtain ⟨kk,dr,ek⟩:=Dc dr;unfold ref03_New.b1 at d;refine S (S (G (R q 3 c j fun a c=>E (T ?_))))
    have c:=c.tr (t:=149) j (decide_eq_true (by omega));refine Tr c j (K (T (S (O (S (S ?_))))));obtain ⟨z,d,g3⟩:=bd d
    refine X c g (fun e L a' w'=>∃ a2 bb bh dk,ag.le a2∧Env a' 192 (sl e [8,9,15,16] [(178,.bool z.2)])∧Inv n m [] a2 [.row (.slice bb z.1.length bh) 80 1 z.1.length dk,.blk aa [.slice ab (([]:List ByteArray) ++ i).length ad,.slice bb z.1.length bh] 99,nt L 2] w'∧RL a2 1 (z.1.map (fun l=>D.sl 1 (l.map D.bool))) dk) ?_ ?_
    · refine G (R q 4 c j fun a c=>?_);rcases Bo (!decide ((i4657:Int)=(i4992:Int))) with cj | cj;rotate_left
      · replace d:=cf cj d;have c:=c.tr (t:=155) j cj;refine R q 23 c j fun a c=>E (T ?_);cases d;exact ⟨ag,b4,a4,a5,rf,c.kp j,g,aq⟩
      replace d:=ct cj d;have c:=c.tr (t:=155) j cj;refine R q 3 c j fun a c=>L g c j (B q 1 j j j j) j fun a c=>R q 1 c j fun a c=>?_
      obtain ⟨lh,cr,d⟩:=bd d;obtain ⟨c9,rfl⟩:=row_ptr 0 g j j (Go cr).2;obtain ⟨ka,kg,iz,h3⟩:=Rt aq (Go cr).2
      obtain ⟨jj,j6,rfl,gd⟩:=rep_slm.1 iz
      refine L g c j (I q (Ro (Go cr).1 (Go cr).2 c9 1) j j j) j fun a c=>L g c j (f_loadR q 0 j h3 0 j j j j (Rl aq (Go cr).2)) j fun a c=>R q 1 c j fun a c=>?_
      obtain ⟨je,fb,d⟩:=bd d;obtain ⟨jt,ku,cs,hs,g5,gk⟩:=Sa gd (Go fb).1 (Go fb).2;obtain rfl:=rep_bool.1 g5
      refine L g c j (I q hs j j j) j fun a c=>L g c j (Fg q gk 0 j j j j) j fun a c=>R q 2 c j fun a c=>?_;rcases Bo je with ck | ck
      rotate_left
      · replace d:=cf ck d;have c:=c.tr (t:=167) j ck;refine R q 11 c j fun a c=>E (T ?_);cases d
        exact ⟨ag,(p_ c9),a4,a5,rf,c.kp j,g,aq⟩
      replace d:=ct ck d;have c:=c.tr (t:=167) j ck;refine R q 3 c j fun a c=>L g c j (B q 1 j j j j) j fun a c=>R q 1 c j fun a c=>?_
      obtain ⟨li,d0,d⟩:=bd d;obtain ⟨kb,kh,i0,h4⟩:=Rt aq (Go d0).2;obtain ⟨jk,j7,rfl,ge⟩:=rep_slm.1 i0
      refine L g c j (I q (Ro (Go d0).1 (Go d0).2 c9 1) j j j) j fun a c=>L g c j (f_loadR q 0 j h4 0 j j j j (Rl aq (Go d0).2)) j fun a c=>R q 1 c j fun a c=>?_
      obtain ⟨lj,fc,d⟩:=bd d;obtain ⟨ju,kv,cs,ht,g6,gl⟩:=Sa ge (Go fc).1 (Go fc).2;obtain rfl:=rep_bool.1 g6
      refine L g c j (I q ht j j j) j fun a c=>L g c j (Fg q gl 0 j j j j) j fun a c=>R q 1 c j fun a c=>E (T ?_);cases d
      exact ⟨ag,(p_ c9),a4,a5,rf,c.kp j,g,aq⟩
    rintro a w ⟨a2,bb,bh,dk,ei,c,g,d8⟩;have d:=g3;refine T (Cc (b:=z.2) c j (fun eb=>?_) (fun eb=>?_))
    · replace d:=ct eb d;refine S (G (R q 2 c j fun a c=>E (T (V (Xr (Xb (Xr (Xr (Xb (Xr (Xb (Xr (Xr (Xb (Xr (Xr ?_))))))))))))))));cases d;obtain rfl:=Nr ap
      have d:=Le d6;cases d;obtain rfl:=Nr ao;have d:=Le d5;cases d;refine N (v:=_) c j ⟨_,_,_,j,g.nil,j,none,j,Pn⟩
    replace d:=cf eb d;refine K (T (S ?_));obtain ⟨fe,d,g4⟩:=bd d
    refine X c g (fun e L a' w'=>∃ c5,a2.le c5∧Env a' 192 (sl e [8,9,15,16] [(190,.bool fe)])∧Inv n m [] c5 L w') ?_ ?_;rotate_left
    · rintro a w ⟨c5,e4,c,g⟩;have d:=g4;refine T (Cc (b:=fe) c j (fun ea=>?_) (fun ea=>?_));rotate_left
      · replace d:=cf ea d;refine K (xB (T (G (R q 3 c j fun a c=>E (T ?_)))));cases d;have c:=c.setI (t:=16) j (Wc ek (Ln o))
        exact ⟨av.length,Nat.lt_succ_self _,i4992 + 1,av,_,c5,bb,bh,dk,j,ek,dr,ap,((dy.t ei).t e4),c.kp j,g,(d8.m e4)⟩
      replace d:=ct ea d;refine S (G (R q 2 c j fun a c=>E (T (V (Xb (Xr (Xr (Xb (Xr (Xb (Xr (Xr (Xb (Xr (Xr ?_)))))))))))))));cases d;obtain rfl:=Nr ap
      have d:=Le d6;cases d;obtain rfl:=Nr ao;have d:=Le d5;cases d;refine N (v:=_) c j ⟨_,_,_,j,g.nil,j,none,j,Pn⟩
    refine G (R q 3 c j fun a c=>?_);obtain ⟨ft,i5,d⟩:=bd d
    refine Cl (S:=fun _ L' u=>L'=[]∧u=i_ ft) cl_28 g c j j (by obtain ⟨jo,ie,g,f7⟩:=(g.front 2).giveR (xs:=(([]:List ByteArray) ++ i).map D.str) (by simp) (d7.m (((eh.t dx).t dy).t ei));obtain ⟨jp,ig,g,f8⟩:=(g.front 0).giveR (xs:=z.1.map (fun l=>D.sl 1 (l.map D.bool))) (by simp) (d8.m ie);obtain ⟨fx,e5,g,gi⟩:=(g.front 0).giveB;have f9:Pt fx (p_ aa) 99 Tref03_Lattice.d (some (Tref03_Lattice.mk (([]:List ByteArray) ++ i) z.1)):=Pm ((Tref03_Lattice.inv (x:=(Tref03_Lattice.mk (([]:List ByteArray) ++ i) z.1))).2 ⟨ab,ad,bb,bh,j,(f7.m (ig.t e5)),(f8.m e5)⟩) gi;exact ⟨_,(ref03_Lattice_Join.ok k) i5 g.pass0 f9⟩) (fun _ _ _ h=>h.2) j ?_
    intro a w g c;refine R q 2 c j fun a c=>?_;rcases Bo (decide (ft < (0:Int))) with ci | ci
    · replace d:=ct ci d;have c:=c.tr (t:=184) j ci;refine R q 6 c j fun a c=>E (T ?_);cases d;exact ⟨a2,rf,c.kp j,g⟩
    replace d:=cf ci d;have c:=c.tr (t:=184) j ci;refine R q 3 c j fun a c=>?_;obtain ⟨jd,i6,d⟩:=bd d
    refine Cl (S:=fun _ L' u=>L'=[]∧u=i_ jd) cl_82 g c j j (by obtain ⟨jq,ih,g,ga⟩:=(g.front 2).giveR (xs:=(([]:List ByteArray) ++ i).map D.str) (by simp) (d7.m (((eh.t dx).t dy).t ei));obtain ⟨jr,ii,g,gb⟩:=(g.front 0).giveR (xs:=z.1.map (fun l=>D.sl 1 (l.map D.bool))) (by simp) (d8.m ih);obtain ⟨fy,e6,g,gj⟩:=(g.front 0).giveB;have gc:Pt fy (p_ aa) 99 Tref03_Lattice.d (some (Tref03_Lattice.mk (([]:List ByteArray) ++ i) z.1)):=Pm ((Tref03_Lattice.inv (x:=(Tref03_Lattice.mk (([]:List ByteArray) ++ i) z.1))).2 ⟨ab,ad,bb,bh,j,(ga.m (ii.t e6)),(gb.m e6)⟩) gj;exact ⟨_,(ref03_Lattice_Meet.ok k) i6 g.pass0 gc⟩) (fun _ _ _ h=>h.2) j ?_
    intro a w g c;refine R q 2 c j fun a c=>E (T ?_);cases d;exact ⟨a2,rf,c.kp j,g⟩
  
  refine O (Q c g (fun e L n' a' w'=>∃ i5144 aw a9 ac cw da cd,n'=List.length aw∧i5144≤i.length∧i.drop i5144=aw∧forL (ref03_New.b2 k i bw) i5144 aw a9=some fi∧al.le ac∧Env a' 192 (sl e [0,1,8,9] [(10,i_ (i5144:Int))])∧Inv n m [] ac [.row (.slice cw a9.length da) 80 1 a9.length cd,.blk aa [.slice ab (([]:List ByteArray) ++ i).length ad,.slice cw a9.length da] 99,nt L 2] w'∧RL ac 1 (a9.map (fun l=>D.sl 1 (l.map D.bool))) cd) _ ⟨0,_,_,al,none,0,[],j,Nat.zero_le _,j,bn,rf,c.kp j,g,gx⟩ ?_)
  rintro kp a w ⟨i5144,aw,a9,ac,cw,da,cd,rfl,ir,ds,bn,br,c,g,e0⟩;rcases aw with _ | ⟨lc,aw⟩
  · obtain rfl:=Fn bn;have el:=Do ds ir;refine S (S (G (R q 3 c j fun a c=>E (T ?_))));have c:=c.tr (t:=88) j (decide_eq_false (by omega))
    refine Fa c j (Ex (Xe (Xe (Xh (T (⟨_,ac,cw,da,cd,j,br,c.kp j,g,e0⟩))))))
  obtain ⟨k5,d,bn⟩:=Fs bn;obtain ⟨kl,ds,el⟩:=Dc ds;unfold ref03_New.b2 at d;refine S (S (G (R q 3 c j fun a c=>E (T ?_))))
  have c:=c.tr (t:=88) j (decide_eq_true (by omega));refine Tr c j (K (T (S (O (S (G (R q 1 c j fun a c=>?_)))))));obtain ⟨af,er,d⟩:=bd d
  refine s_make ai_80 z_4 j g c j j (mkO_some er).1 (mkO_some er).2.1 j fun a w ev c g=>?_
  have d9:RL ac 1 (af.map D.bool) (List.replicate af.length (.bool false)):=RL.made er (rep_bool.2 j)
  refine R q 1 c j fun a c=>E (T (S (G (R q 2 c j fun a c=>?_))));obtain ⟨lk,cu,d⟩:=bd d;obtain ⟨kc,h8,i1,h5⟩:=Rt d9 (Go cu).2
  obtain rfl:=rep_bool.1 i1
  refine L g c j (I q (Ro (Go cu).1 (Go cu).2 ev 1) j j j) j fun a c=>s_storeS (xs:=af) (j:=(i5144:Int)) (y':=true) q 0 g c j j h5 h8 (Rl d9 (Go cu).2) 0 j j j j j j j j fun a w c ix g=>?_
  have g7:RL ac 1 ((setO af (i5144:Int) true).map D.bool) (putAt (List.replicate af.length (.bool false)) ((i5144:Int).toNat * 1) [.bool true]):=RL.set d9 (row_lt (Go cu).2) (rep_bool.2 j) ix
  have c:=c.setV (t:=92) j (Ss (xs:=af) (j:=(i5144:Int)) (y':=true));have c:=c.setV (t:=11) j (Ss (xs:=af) (j:=(i5144:Int)) (y':=true))
  have c:=c.setV (t:=93) j (Ss (xs:=af) (j:=(i5144:Int)) (y':=true));refine E (T (S (S (G (R q 1 c j fun a c=>E (T ?_))))));obtain ⟨fl,bo,gu⟩:=bd d
  refine X c g (fun e L a' w'=>∃ ae c6 b6 cc d3,fl = .go ae∧ac.le c6∧Env a' 192 (sl e [0,1,8,9,10] [(11,.slice b6 ae.length cc)])∧Inv n m [] c6 [.row (.slice b6 ae.length cc) 4 1 ae.length d3,nt L 1,nt L 2,nt L 3] w'∧RL c6 1 (ae.map D.bool) d3) ?_ ?_
  rotate_left
  · rintro a w ⟨ae,c6,b6,cc,d3,rfl,e7,c,g,g8⟩;have d:=Lg gu
    refine T (G (R q 4 c j fun a c=>L g c j (B q 2 j j j j) j fun a c=>R q 1 c j fun a c=>?_))
    obtain ⟨et,e8,g,gf⟩:=(g.front 0).giveR (xs:=ae.map D.bool) (by simp) g8;refine Bs ai_97 g c j j j j j fun a w jv c g=>?_
    have e2:RL et 1 ([ae].map (fun l=>D.sl 1 (l.map D.bool))) _:=(Rc (rep_slm.2 ⟨b6,cc,j,gf⟩) j Rn);obtain ⟨_,hu,d⟩:=bd d
    refine Ao (f:=(fun l=>D.sl 1 (l.map D.bool))) (xs:=a9) (ys:=[ae]) ai_97 1 0 g c j j j e2 j j (Ll hu) j fun a w fu f2 c g=>?_
    have g9:=Ra (e0.m (e7.t e8)) e2
    refine R q 2 c j fun a c=>W q 2 g c j j j j j j j j j j fun a w c g=>E (xB (T (G (R q 3 c j fun a c=>E (T ?_)))));cases d
    have c:=c.setI (t:=10) j (Wc el (Ln o))
    exact ⟨aw.length,Nat.lt_succ_self _,i5144 + 1,aw,_,et,fu,f2,(cd ++ [.slice b6 ae.length cc]),j,el,ds,bn,((br.t e7).t e8),c.kp j,(g.dropN 1 j),g9⟩
  
  refine O (Q c g (fun e L n' a' w'=>∃ i5921 ax ba ah b5 cb bk,n'=List.length ax∧i5921≤i.length∧i.drop i5921=ax∧forL (ref03_New.b3 k i bw) i5921 ax ba=some fl∧ac.le ah∧Env a' 192 (sl e [0,1,8,9,10] [(12,i_ (i5921:Int)),(11,.slice b5 ba.length cb)])∧Inv n m [] ah [.row (.slice b5 ba.length cb) 4 1 ba.length bk,nt L 1,nt L 2,nt L 3] w'∧RL ah 1 (ba.map D.bool) bk) _ ⟨0,_,_,ac,(p_ ev),af.length,(putAt (List.replicate af.length (.bool false)) ((i5144:Int).toNat * 1) [.bool true]),j,Nat.zero_le _,j,bo,rf,c.kp j,g,g7⟩ ?_)
  rintro kq a w ⟨i5921,ax,ba,ah,b5,cb,bk,rfl,it,dt,bo,bs,c,g,dp⟩;rcases ax with _ | ⟨ld,ax⟩
  · obtain rfl:=Fn bo;have em:=Do dt it;refine S (S (G (R q 3 c j fun a c=>E (T ?_))));have c:=c.tr (t:=98) j (decide_eq_false (by omega))
    refine Fa c j (Ex (Xe (Xe (Xh (T (⟨_,ah,b5,cb,bk,j,bs,c.kp j,g,dp⟩))))))
  obtain ⟨k6,d,bo⟩:=Fs bo;obtain ⟨km,dt,em⟩:=Dc dt;unfold ref03_New.b3 at d;refine S (S (G (R q 3 c j fun a c=>E (T ?_))))
  have c:=c.tr (t:=98) j (decide_eq_true (by omega));refine Tr c j (K (T (S (O (S (G (Bs ai_80 g c j j j j j fun a w jw c g=>?_)))))))
  have ha:RL ah 1 (([]:List Bool).map D.bool) []:=Rn;refine R q 1 c j fun a c=>?_;obtain ⟨_,hv,d⟩:=bd d
  refine Ao (f:=D.bool) (xs:=([]:List Bool)) (ys:=ba) ai_80 0 1 g c j j j dp j j (Ll hv) j fun a w fv f3 c g=>?_;have hb:=Ra ha dp
  refine R q 1 c j fun a c=>E (T (S (S (G (R q 1 c j fun a c=>E (T ?_))))));obtain ⟨fm,bp,gv⟩:=bd d
  refine X c g (fun e L a' w'=>∃ ak bc c1 de dl es ex d4,fm = .go ak∧ah.le bc∧Env a' 192 (sl e [0,1,8,9,10,12] [(13,.slice c1 ak.1.length de)])∧Inv n m [] bc [.row (.slice c1 ak.1.length de) 4 1 ak.1.length dl,.row (.slice es ak.2.length ex) 4 1 ak.2.length d4,nt L 2,nt L 3,nt L 4] w'∧RL bc 1 (ak.1.map D.bool) dl∧RL bc 1 (ak.2.map D.bool) d4) ?_ ?_
  rotate_left
  · rintro a w ⟨ak,bc,c1,de,dl,es,ex,d4,rfl,ij,c,g,hc,kf⟩;have d:=Lg gv
    refine T (G (R q 2 c j fun a c=>E (xB (T (G (R q 3 c j fun a c=>E (T ?_)))))));cases d;have c:=c.setI (t:=12) j (Wc em (Ln o))
    exact ⟨ax.length,Nat.lt_succ_self _,i5921 + 1,ax,_,bc,c1,de,dl,j,em,dt,bo,(bs.t ij),c.kp j,(g.pick [0,2,3,4] (by decide) j),hc⟩
  
  refine O (Q c g (fun e L n' a' w'=>∃ i6197 ay p a3 b7 bi a6 c0 bj bl,n'=List.length ay∧i6197≤bw.length∧bw.drop i6197=ay∧forL (ref03_New.b4 k i) i6197 ay p=some fm∧ah.le a3∧Env a' 192 (sl e [0,1,8,9,10,12] [(14,i_ (i6197:Int)),(11,.slice c0 p.2.length bj),(13,.slice b7 p.1.length bi)])∧Inv n m [] a3 [.row (.slice b7 p.1.length bi) 4 1 p.1.length a6,.row (.slice c0 p.2.length bj) 4 1 p.2.length bl,nt L 2,nt L 3,nt L 4] w'∧RL a3 1 (p.1.map D.bool) a6∧RL a3 1 (p.2.map D.bool) bl) _ ⟨0,_,_,ah,fv,f3,([] ++ bk),b5,cb,bk,j,Nat.zero_le _,j,bp,rf,c.kp j,g,hb,dp⟩ ?_)
  rintro kr a w ⟨i6197,ay,p,a3,b7,bi,a6,c0,bj,bl,rfl,iu,du,bp,bt,c,g,cg,ch⟩;rcases ay with _ | ⟨lf,ay⟩
  · obtain rfl:=Fn bp;have en:=Do du iu;refine S (S (G (R q 4 c j fun a c=>E (T ?_))));have c:=c.tr (t:=107) j (decide_eq_false (by omega))
    refine Fa c j (Ex (Xe (Xe (Xh (T (⟨_,a3,b7,bi,a6,c0,bj,bl,j,bt,c.kp j,g,cg,ch⟩))))))
  obtain ⟨k7,d,bp⟩:=Fs bp;obtain ⟨e9,du,en⟩:=Dc du;unfold ref03_New.b4 at d;refine S (S (G (R q 4 c j fun a c=>E (T ?_))))
  have c:=c.tr (t:=107) j (decide_eq_true (by omega));refine Tr c j (K (T (S ?_)));obtain ⟨ar,d,hf⟩:=bd d
  refine X c g (fun e L a' w'=>∃ be c2 df dm c3 dg dn,a3.le be∧Env a' 192 (sl e [0,1,8,9,10,12,14] [(11,.slice c3 ar.2.length dg),(13,.slice c2 ar.1.length df)])∧Inv n m [] be [.row (.slice c2 ar.1.length df) 4 1 ar.1.length dm,.row (.slice c3 ar.2.length dg) 4 1 ar.2.length dn,nt L 2,nt L 3,nt L 4] w'∧RL be 1 (ar.1.map D.bool) dm∧RL be 1 (ar.2.map D.bool) dn) ?_ ?_
  rotate_left
  · rintro a w ⟨be,c2,df,dm,c3,dg,dn,ik,c,g,hd,he⟩;have d:=hf;refine T (G (R q 3 c j fun a c=>E (T ?_)));cases d
    have c:=c.setI (t:=14) j (Wc en (Ln bm))
    exact ⟨ay.length,Nat.lt_succ_self _,i6197 + 1,ay,_,be,c2,df,dm,c3,dg,dn,j,en,du,bp,(bt.t ik),c.kp j,g,hd,he⟩
  refine O (S (G (R q 4 c j fun a c=>?_)))
  obtain ⟨jx,kw,cs,hw,hg,gm⟩:=Sa (bm.m (((((s.t ai).t cp).t br).t bs).t bt)) (Int.natCast_nonneg _) (natIdx e9);obtain rfl:=TPair.inv.1 hg
  refine L g c j (I q hw j j j) j fun a c=>R q 1 c j fun a c=>L g c j (Fg q gm 0 j j j j) j fun a c=>?_;obtain ⟨ll,i7,d⟩:=bd d
  refine J cl_81 g c j j ((ref03_Find.ok k) i7 g.pass0 (o.m (((((s.t ai).t cp).t br).t bs).t bt))) j ?_;rintro a w _ fz _ ⟨rfl,rfl⟩ y g c
  obtain ⟨jf,cv,d⟩:=bd d;obtain ⟨d1,rfl⟩:=row_ptr 1 g j j (Go cv).2;obtain ⟨kd,ki,i2,h6⟩:=Rt (ch.m y) (Go cv).2
  obtain rfl:=rep_bool.1 i2
  refine L g c j (I q (Ro (Go cv).1 (Go cv).2 d1 1) j j j) j fun a c=>L g c j (f_loadR q 1 j h6 0 j j j j (Rl (ch.m y) (Go cv).2)) j fun a c=>E (T (Cc (b:=jf) c j (fun ed=>?_) (fun ed=>?_)))
  rotate_left
  · replace d:=cf ed d;refine K (xB (T ?_));cases d;exact ⟨fz,b7,bi,a6,(p_ d1),bj,bl,y,c.kp j,g,(cg.m y),(ch.m y)⟩
  replace d:=ct ed d;refine G (R q 4 c j fun a c=>?_)
  obtain ⟨jy,kx,cs,hx,hh,gn⟩:=Sa (bm.m ((((((s.t ai).t cp).t br).t bs).t bt).t y)) (Int.natCast_nonneg _) (natIdx e9)
  obtain rfl:=TPair.inv.1 hh;refine L g c j (I q hx j j j) j fun a c=>R q 1 c j fun a c=>L g c j (Fg q gn 1 j j j j) j fun a c=>?_
  obtain ⟨b2,i8,d⟩:=bd d;refine J cl_81 g c j j ((ref03_Find.ok k) i8 g.pass0 (o.m ((((((s.t ai).t cp).t br).t bs).t bt).t y))) j ?_
  rintro a w _ eu _ ⟨rfl,rfl⟩ cq g c;obtain ⟨lm,bv,d⟩:=bd d;obtain ⟨ew,rfl⟩:=row_ptr 0 g j j (Go bv).2
  obtain ⟨ke,h9,i3,h7⟩:=Rt (cg.m (y.t cq)) (Go bv).2;obtain rfl:=rep_bool.1 i3
  refine L g c j (I q (Ro (Go bv).1 (Go bv).2 ew 1) j j j) j fun a c=>s_storeS (xs:=p.1) (j:=b2) (y':=true) q 0 g c j j h7 h9 (Rl (cg.m (y.t cq)) (Go bv).2) 0 j j j j j j j j fun a w c iy g=>?_
  have hj:RL eu 1 ((setO p.1 b2 true).map D.bool) (putAt a6 (b2.toNat * 1) [.bool true]):=RL.set (cg.m (y.t cq)) (row_lt (Go bv).2) (rep_bool.2 j) iy
  have c:=c.setV (t:=13) j (Ss (xs:=p.1) (j:=b2) (y':=true));have c:=c.setV (t:=120) j (Ss (xs:=p.1) (j:=b2) (y':=true));refine E (xB (T ?_));cases d
  exact ⟨eu,(p_ ew),bi,(putAt a6 (b2.toNat * 1) [.bool true]),(p_ d1),bj,bl,(y.t cq),c.kp j,g,hj,(ch.m (y.t cq))⟩

theorem cl_83:Callable Tryz.prog 83:=⟨_,Tryz.func83,by kernel_rfl,by kernel_rfl⟩

def ref08_Catalog_Table.C (s:(Option Tref08_Catalog)→ByteArray→Option Int):Prop:=∀ {e f r},s e f=some r→∀ {c b d},Inv c b [] b [] c→(Pt b d 36 Tref08_Catalog.d e)→Calls Tryz.prog 83 #[.pointer d,.string f] c (Ret c b [] fun G' L' v=>L'=[]∧v=i_ r)

theorem ref08_Catalog_Table.ok (k:Nat):ref08_Catalog_Table.C (ref08_Catalog_Table k):=by
  intro bg ab r d ae l ao f ag
  unfold ref08_Catalog_Table at d
  refine Ci 26 Tryz.func83 j j j fun a c=>?_
  refine S (G (R q 1 c j fun a c=>E (T (S (S (G (R q 1 c j fun a c=>E (T ?_))))))));rcases (ag).cases with ⟨x,rfl⟩ | ⟨af,ay,cs,x,rfl,ai,p⟩
  · cases op_n x d
  replace d:=op_s x d;obtain ⟨av,ap,a0,aq,a1,ar,a2,rfl,bb,y,a6,a7⟩:=Tref08_Catalog.inv.1 ai;obtain ⟨aa,h,z⟩:=bd d
  refine X c f (fun e L a' w'=>∃ ad o,aa = .go ad∧l.le o∧Env a' 26 []∧Inv ae l [] o L w') ?_ ?_;rotate_left
  · rintro a w ⟨ad,o,rfl,bc,c,f⟩;have d:=Lg z;refine T (S (G (R q 1 c j fun a c=>E (T (V ?_)))));cases d;refine N (v:=_) c j ⟨_,_,_,j,f.nil,j,j⟩
  
  refine O (Q c f (fun e L n' a' w'=>∃ i58 g ac m,n'=List.length g∧i58≤af.Tables.length∧af.Tables.drop i58=g∧forL (ref08_Catalog_Table.b0 k ab) i58 g ac=some aa∧l.le m∧Env a' 26 (sl e [0,1] [(5,i_ (i58:Int))])∧Inv ae l [] m L w') _ ⟨0,_,_,l,j,Nat.zero_le _,j,h,rf,c.kp j,f⟩ ?_)
  rintro be a w ⟨i58,g,ac,m,rfl,al,n,h,i,c,f⟩;rcases g with _ | ⟨an,g⟩
  · obtain rfl:=Fn h;have u:=Do n al
    refine S (S (G (R q 4 c j fun a c=>L f c j (Fg q (p.m i) 1 j j j j) j fun a c=>R q 2 c j fun a c=>E (T ?_))))
    have c:=c.tr (t:=12) j (decide_eq_false (by omega));refine Fa c j (Ex (Xe (Xe (Xh (T (⟨_,m,j,i,c.kp j,f⟩))))))
  obtain ⟨bh,d,h⟩:=Fs h;obtain ⟨am,n,u⟩:=Dc n;unfold ref08_Catalog_Table.b0 at d
  refine S (S (G (R q 4 c j fun a c=>L f c j (Fg q (p.m i) 1 j j j j) j fun a c=>R q 2 c j fun a c=>E (T ?_))))
  have c:=c.tr (t:=12) j (decide_eq_true (by omega))
  refine Tr c j (K (T (S (O (S (G (R q 3 c j fun a c=>L f c j (Fg q (p.m i) 1 j j j j) j fun a c=>R q 1 c j fun a c=>?_)))))))
  obtain ⟨az,bf,cs,ak,aj,ah⟩:=Sa (y.m i) (Int.natCast_nonneg _) (natIdx am);obtain ⟨au,a3,aw,a4,ax,a5,rfl,a8,a9,ba⟩:=TRelation.inv.1 aj
  refine L f c j (I q ak j j j) j fun a c=>R q 1 c j fun a c=>L f c j (Fg q ah 0 j j j j) j fun a c=>R q 2 c j fun a c=>E (T (Cc (b:=decide (an.Name=ab)) c j (fun s=>?_) (fun s=>?_)))
  rotate_left
  · replace d:=cf s d;refine K (xB (T (G (R q 3 c j fun a c=>E (T ?_)))));cases d;have c:=c.setI (t:=5) j (Wc u (Ln y))
    exact ⟨g.length,Nat.lt_succ_self _,i58 + 1,g,_,m,j,u,n,h,i,c.kp j,f⟩
  replace d:=ct s d;refine S (G (R q 2 c j fun a c=>E (T (V (Xb (Xr (Xr (Xb (Xr (Xr ?_))))))))));cases d;obtain rfl:=Nr h;have d:=Le z;cases d
  refine N (v:=_) c j ⟨_,_,_,j,f.nil,j,j⟩

theorem cl_84:Callable Tryz.prog 84:=⟨_,Tryz.func84,by kernel_rfl,by kernel_rfl⟩

def ref08_Col.C (s:(List TCol)→ByteArray→Option Int):Prop:=∀ {d g r},s d g=some r→∀ {c b e f},Inv c b [] b [] c→(Sl b e f 4 (d.map TCol.d))→Calls Tryz.prog 84 #[.slice e d.length f,.string g] c (Ret c b [] fun G' L' v=>L'=[]∧v=i_ r)

theorem ref08_Col.ok (k:Nat):ref08_Col.C (ref08_Col k):=by
  intro z aa r d ad i ak am f u
  unfold ref08_Col at d
  refine Ci 20 Tryz.func84 j j j fun a c=>?_
  refine S (G (R q 1 c j fun a c=>E (T (S (S (G (R q 1 c j fun a c=>E (T ?_))))))));obtain ⟨y,h,x⟩:=bd d
  refine X c f (fun e L a' w'=>∃ ac n,y = .go ac∧i.le n∧Env a' 20 []∧Inv ad i [] n L w') ?_ ?_;rotate_left
  · rintro a w ⟨ac,n,rfl,an,c,f⟩;have d:=Lg x;refine T (S (G (R q 1 c j fun a c=>E (T (V ?_)))));cases d;refine N (v:=_) c j ⟨_,_,_,j,f.nil,j,j⟩
  
  refine O (Q c f (fun e L n' a' w'=>∃ i26 g ab l,n'=List.length g∧i26≤z.length∧z.drop i26=g∧forL (ref08_Col.b0 k aa) i26 g ab=some y∧i.le l∧Env a' 20 (sl e [0,1] [(5,i_ (i26:Int))])∧Inv ad i [] l L w') _ ⟨0,_,_,i,j,Nat.zero_le _,j,h,rf,c.kp j,f⟩ ?_)
  rintro ao a w ⟨i26,g,ab,l,rfl,ah,m,h,p,c,f⟩;rcases g with _ | ⟨aj,g⟩
  · obtain rfl:=Fn h;have s:=Do m ah;refine S (S (G (R q 4 c j fun a c=>E (T ?_))));have c:=c.tr (t:=9) j (decide_eq_false (by omega))
    refine Fa c j (Ex (Xe (Xe (Xh (T (⟨_,l,j,p,c.kp j,f⟩))))))
  obtain ⟨aq,d,h⟩:=Fs h;obtain ⟨ai,m,s⟩:=Dc m;unfold ref08_Col.b0 at d;refine S (S (G (R q 4 c j fun a c=>E (T ?_))))
  have c:=c.tr (t:=9) j (decide_eq_true (by omega));refine Tr c j (K (T (S (O (S (G (R q 2 c j fun a c=>?_)))))))
  obtain ⟨al,ap,cs,ag,af,ae⟩:=Sa (u.m p) (Int.natCast_nonneg _) (natIdx ai);obtain rfl:=TCol.inv.1 af
  refine L f c j (I q ag j j j) j fun a c=>R q 1 c j fun a c=>L f c j (Fg q ae 0 j j j j) j fun a c=>R q 2 c j fun a c=>E (T (Cc (b:=decide (aj.Name=aa)) c j (fun o=>?_) (fun o=>?_)))
  rotate_left
  · replace d:=cf o d;refine K (xB (T (G (R q 3 c j fun a c=>E (T ?_)))));cases d;have c:=c.setI (t:=5) j (Wc s (Ln u))
    exact ⟨g.length,Nat.lt_succ_self _,i26 + 1,g,_,l,j,s,m,h,p,c.kp j,f⟩
  replace d:=ct o d;refine S (G (R q 2 c j fun a c=>E (T (V (Xb (Xr (Xr (Xb (Xr (Xr ?_))))))))));cases d;obtain rfl:=Nr h;have d:=Le x;cases d
  refine N (v:=_) c j ⟨_,_,_,j,f.nil,j,j⟩

theorem cl_85:Callable Tryz.prog 85:=⟨_,Tryz.func85,by kernel_rfl,by kernel_rfl⟩

def ref08_Catalog_level.C (s:(Option Tref08_Catalog)→ByteArray→Option Int):Prop:=∀ {e f r},s e f=some r→∀ {c b d},Inv c b [] b [] c→(Pt b d 36 Tref08_Catalog.d e)→Calls Tryz.prog 85 #[.pointer d,.string f] c (Ret c b [] fun G' L' v=>L'=[]∧v=i_ r)

theorem ref08_Catalog_level.ok (k:Nat):ref08_Catalog_level.C (ref08_Catalog_level k):=by
  intro ap aq r c ar ab s d h
  unfold ref08_Catalog_level at c
  refine Ci 14 Tryz.func85 j j j fun a b=>?_
  refine S (G (R q 1 b j fun a b=>E (T (S (G (R q 1 b j fun a b=>?_))))));rcases (h).cases with ⟨e,rfl⟩ | ⟨aw,ae,cs,e,rfl,n,l⟩
  · cases op_n e c
  replace c:=op_s e c;obtain ⟨t,u,af,x,ag,y,ah,rfl,g,ak,al,am⟩:=Tref08_Catalog.inv.1 n
  refine R q 2 b j fun a b=>L d b j (Fg q l 0 j j j j) j fun a b=>?_;rcases (g).cases with ⟨f,rfl⟩ | ⟨au,ad,cs,f,rfl,o,m⟩
  · cases op_n f c
  replace c:=op_s f c;obtain ⟨z,ai,aa,aj,rfl,i,an⟩:=Tref03_Lattice.inv.1 o
  refine R q 2 b j fun a b=>L d b j (Fg q m 0 j j j j) j fun a b=>R q 1 b j fun a b=>?_;obtain ⟨av,p,c⟩:=bd c
  refine J cl_81 d b j j ((ref03_Find.ok k) p d.pass0 i) j ?_;rintro a w _ ac _ ⟨rfl,rfl⟩ ao d b;refine R q 1 b j fun a b=>E (T (V ?_));cases c
  refine N (v:=_) b j ⟨_,_,_,j,d.nil,j,j⟩

theorem cl_115:Callable Tryz.prog 115:=⟨_,Tryz.func115,by kernel_rfl,by kernel_rfl⟩

def ref08_kids.C (s:TExpr→Option Int):Prop:=∀ {e r},s e=some r→∀ {c b d},Inv c b [] b [] c→(Rep b e.d d)→Calls Tryz.prog 115 #[.agg ⟨d⟩] c (Ret c b [] fun G' L' v=>L'=[]∧v=i_ r)

theorem ref08_kids.ok (k:Nat):ref08_kids.C (ref08_kids k):=by
  intro h r d ag i av f an
  unfold ref08_kids at d
  obtain ⟨ao,ar,ap,au,rfl,aw,ax⟩:=TExpr.inv.1 an
  refine Ci 65 Tryz.func115 j j j fun a c=>?_
  refine S (G (s_box f c j j j j fun a w aq c f=>R q 1 c j fun a c=>E (T (S (S ?_)))));obtain ⟨ah,d,ak⟩:=bd d
  refine X c f (fun e L a' w'=>∃ l,i.le l∧Env a' 65 (sl e [1] [(10,.bool ah)])∧Inv ag i [] l L w') ?_ ?_
  · refine G (R q 1 c j fun a c=>L f c j (B q 0 j j j j) j fun a c=>R q 2 c j fun a c=>?_);rcases Bo (decide ((1:Int)≤h.Kind)) with aa | aa;rotate_left
    · replace d:=cf aa d;have c:=c.tr (t:=6) j aa;refine R q 4 c j fun a c=>E (T ?_);cases d;exact ⟨i,rf,c.kp j,f⟩
    replace d:=ct aa d;have c:=c.tr (t:=6) j aa;refine R q 1 c j fun a c=>L f c j (B q 0 j j j j) j fun a c=>R q 2 c j fun a c=>E (T ?_);cases d
    exact ⟨i,rf,c.kp j,f⟩
  rintro a w ⟨l,ay,c,f⟩;have d:=ak;refine T (Cc (b:=ah) c j (fun af=>?_) (fun af=>?_))
  · replace d:=ct af d;refine S (G (R q 1 c j fun a c=>E (T (V (Xr ?_)))));cases d;refine N (v:=_) c j ⟨_,_,_,j,f.nil,j,j⟩
  replace d:=cf af d;refine K (T (S (S ?_)));obtain ⟨ai,d,al⟩:=bd d
  refine X c f (fun e L a' w'=>∃ g,l.le g∧Env a' 65 (sl e [1] [(18,.bool ai)])∧Inv ag i [] g L w') ?_ ?_
  · refine G (R q 1 c j fun a c=>L f c j (B q 0 j j j j) j fun a c=>R q 2 c j fun a c=>?_);rcases Bo (decide (h.Kind=(8:Int))) with z | z
    · replace d:=ct z d;have c:=c.tr (t:=14) j z;refine R q 4 c j fun a c=>E (T ?_);cases d;exact ⟨l,rf,c.kp j,f⟩
    replace d:=cf z d;have c:=c.tr (t:=14) j z;refine R q 1 c j fun a c=>L f c j (B q 0 j j j j) j fun a c=>R q 2 c j fun a c=>E (T ?_);cases d
    exact ⟨l,rf,c.kp j,f⟩
  rintro a w ⟨g,az,c,f⟩;have d:=al;refine T (Cc (b:=ai) c j (fun ae=>?_) (fun ae=>?_))
  · replace d:=ct ae d;refine S (G (R q 1 c j fun a c=>E (T (V (Xr ?_)))));cases d;refine N (v:=_) c j ⟨_,_,_,j,f.nil,j,j⟩
  replace d:=cf ae d
  refine K (T (S (S (G (R q 1 c j fun a c=>L f c j (B q 0 j j j j) j fun a c=>R q 1 c j fun a c=>E (T (Cc (b:=decide (h.Kind=(11:Int))) c j (fun ad=>?_) (fun ad=>?_))))))))
  · replace d:=ct ad d;refine S (G (R q 1 c j fun a c=>E (T (V (Xr ?_)))));cases d;refine N (v:=_) c j ⟨_,_,_,j,f.nil,j,j⟩
  replace d:=cf ad d;refine K (T (S (S ?_)));obtain ⟨aj,d,am⟩:=bd d;refine X c f (fun e L a' w'=>∃ ab,g.le ab∧Env a' 65 [(64,.bool aj)]∧Inv ag i [] ab [] w') ?_ ?_
  rotate_left
  · rintro a w ⟨ab,a0,c,f⟩;have d:=am;refine T (Cc (b:=aj) c j (fun ac=>?_) (fun ac=>?_))
    · replace d:=ct ac d;refine S (G (R q 1 c j fun a c=>E (T (V (Xr ?_)))));cases d;refine N (v:=_) c j ⟨_,_,_,j,f.nil,j,j⟩
    replace d:=cf ac d;refine K (T (S (G (R q 1 c j fun a c=>E (T (V ?_))))));cases d;refine N (v:=_) c j ⟨_,_,_,j,f.nil,j,j⟩
  refine G (R q 1 c j fun a c=>L f c j (B q 0 j j j j) j fun a c=>R q 2 c j fun a c=>?_);rcases Bo (decide (h.Kind=(10:Int))) with m | m
  rotate_left
  · replace d:=cf m d;have c:=c.tr (t:=25) j m;refine R q 39 c j fun a c=>E (T ?_);cases d;exact ⟨g,rf,c.kp j,(f.dropN 1 j)⟩
  replace d:=ct m d;have c:=c.tr (t:=25) j m;refine R q 1 c j fun a c=>L f c j (B q 0 j j j j) j fun a c=>R q 2 c j fun a c=>?_
  rcases Bo (decide (h.S=(⟨#[111,114]⟩:ByteArray))) with n | n
  · replace d:=ct n d;have c:=c.tr (t:=29) j n;refine R q 35 c j fun a c=>E (T ?_);cases d;exact ⟨g,rf,c.kp j,(f.dropN 1 j)⟩
  replace d:=cf n d;have c:=c.tr (t:=29) j n;refine R q 1 c j fun a c=>L f c j (B q 0 j j j j) j fun a c=>R q 3 c j fun a c=>?_
  rcases Bo (decide (h.S=(⟨#[97,110,100]⟩:ByteArray))) with o | o
  · replace d:=ct o d;have c:=c.tr (t:=34) j o;refine R q 30 c j fun a c=>E (T ?_);cases d;exact ⟨g,rf,c.kp j,(f.dropN 1 j)⟩
  replace d:=cf o d;have c:=c.tr (t:=34) j o;refine R q 1 c j fun a c=>L f c j (B q 0 j j j j) j fun a c=>R q 3 c j fun a c=>?_
  rcases Bo (decide (h.S=(⟨#[61]⟩:ByteArray))) with p | p
  · replace d:=ct p d;have c:=c.tr (t:=39) j p;refine R q 25 c j fun a c=>E (T ?_);cases d;exact ⟨g,rf,c.kp j,(f.dropN 1 j)⟩
  replace d:=cf p d;have c:=c.tr (t:=39) j p;refine R q 1 c j fun a c=>L f c j (B q 0 j j j j) j fun a c=>R q 3 c j fun a c=>?_
  rcases Bo (decide (h.S=(⟨#[60,62]⟩:ByteArray))) with s | s
  · replace d:=ct s d;have c:=c.tr (t:=44) j s;refine R q 20 c j fun a c=>E (T ?_);cases d;exact ⟨g,rf,c.kp j,(f.dropN 1 j)⟩
  replace d:=cf s d;have c:=c.tr (t:=44) j s;refine R q 1 c j fun a c=>L f c j (B q 0 j j j j) j fun a c=>R q 3 c j fun a c=>?_
  rcases Bo (decide (h.S=(⟨#[60]⟩:ByteArray))) with u | u
  · replace d:=ct u d;have c:=c.tr (t:=49) j u;refine R q 15 c j fun a c=>E (T ?_);cases d;exact ⟨g,rf,c.kp j,(f.dropN 1 j)⟩
  replace d:=cf u d;have c:=c.tr (t:=49) j u;refine R q 1 c j fun a c=>L f c j (B q 0 j j j j) j fun a c=>R q 3 c j fun a c=>?_
  rcases Bo (decide (h.S=(⟨#[60,61]⟩:ByteArray))) with x | x
  · replace d:=ct x d;have c:=c.tr (t:=54) j x;refine R q 10 c j fun a c=>E (T ?_);cases d;exact ⟨g,rf,c.kp j,(f.dropN 1 j)⟩
  replace d:=cf x d;have c:=c.tr (t:=54) j x;refine R q 1 c j fun a c=>L f c j (B q 0 j j j j) j fun a c=>R q 3 c j fun a c=>?_
  rcases Bo (decide (h.S=(⟨#[62]⟩:ByteArray))) with y | y
  · replace d:=ct y d;have c:=c.tr (t:=59) j y;refine R q 5 c j fun a c=>E (T ?_);cases d;exact ⟨g,rf,c.kp j,(f.dropN 1 j)⟩
  replace d:=cf y d;have c:=c.tr (t:=59) j y;refine R q 1 c j fun a c=>L f c j (B q 0 j j j j) j fun a c=>R q 3 c j fun a c=>E (T ?_);cases d
  exact ⟨g,rf,c.kp j,(f.dropN 1 j)⟩

theorem cl_86:Callable Tryz.prog 86:=⟨_,Tryz.func86,by kernel_rfl,by kernel_rfl⟩

def ref08_Shape.C (s:TTable→TExpr→Int→Option Bool):Prop:=∀ {f g h r},s f g h=some r→∀ {c b d e},Inv c b [] b [] c→(Rep b f.d d)→(Rep b g.d e)→Calls Tryz.prog 86 #[.agg ⟨d⟩,.agg ⟨e⟩,i_ h] c (Ret c b [] fun G' L' v=>L'=[]∧v = .bool r)
end Go.Proofs.YtknhbphhdfknaaaGreatDoor
