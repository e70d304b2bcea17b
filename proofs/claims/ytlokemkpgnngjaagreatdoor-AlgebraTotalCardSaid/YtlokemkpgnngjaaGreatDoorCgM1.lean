/- The contracts: what the machine does at a call is what the plain function says. Written by mk.py. -/
import Derived.Test.YtlokemkpgnngjaaGreatDoorCgM0
set_option linter.unusedVariables false
set_option linter.unusedSimpArgs false
set_option maxRecDepth 100000
namespace Go.Proofs.YtlokemkpgnngjaaGreatDoor
open Go.RowKit
theorem law10_AlgebraTotal.ok (k:Nat):law10_AlgebraTotal.C (law10_AlgebraTotal k):=by
  intro i p r g y n g2 g1 d ev ed
  unfold law10_AlgebraTotal at g
  obtain ⟨aa,ac,ab,ad,rfl,ae,af⟩:=TNode.inv.1 ev
  obtain ⟨ay,a2,ax,a3,rfl,a4,a5⟩:=TNode.inv.1 ed
  refine Ci 141 Tryz.func4 j j j fun a c=>?_
  refine S (G (s_box d c j j j j fun a w gn c d=>s_box d c j j j j fun a w go c d=>R q 1 c j fun a c=>E (T (S (S ?_)))));obtain ⟨c8,g,em⟩:=bd g
  refine X c d (fun e L a' w'=>∃ bs,n.le bs∧Env a' 141 (sl e [2,3] [(31,.bool c8)])∧Inv y n [] bs L w') ?_ ?_
  · refine G (L d c j (B q 1 j j j j) j fun a c=>Bs ai_22 d c j j j j j fun a w gv c d=>?_)
    have es:RL n 5 ([i].map TNode.d) _:=(Rc (TNode.inv.2 ⟨aa,ac,ab,ad,j,ae,af⟩) j Rn);obtain ⟨dp,fx,g⟩:=bd g
    refine Cl (S:=fun _ L' u=>L'=[]∧u=i_ dp) cl_12 d c j j (by obtain ⟨gl,hh,d,ea⟩:=(d.front 0).giveR (xs:=([i]).map TNode.d) (by simp) es;exact ⟨_,(law10_weighNodes.ok k) fx d.pass0 ea⟩) (fun _ _ _ h=>h.2) j ?_
    intro a w d c;refine R q 2 c j fun a c=>?_;rcases Bo (decide ((100:Int) < dp)) with bj | bj
    · replace g:=ct bj g;have c:=c.tr (t:=26) j bj;refine R q 5 c j fun a c=>E (T ?_);cases g;exact ⟨n,rf,c.kp j,(d.dropN 1 j)⟩
    replace g:=cf bj g;have c:=c.tr (t:=26) j bj;refine L d c j (B q 1 j j j j) j fun a c=>Bs ai_22 d c j j j j j fun a w gw c d=>?_
    have et:RL n 5 ([p].map TNode.d) _:=(Rc (TNode.inv.2 ⟨ay,a2,ax,a3,j,a4,a5⟩) j Rn);obtain ⟨f8,fy,g⟩:=bd g
    refine Cl (S:=fun _ L' u=>L'=[]∧u=i_ f8) cl_12 d c j j (by obtain ⟨gm,hi,d,eb⟩:=(d.front 0).giveR (xs:=([p]).map TNode.d) (by simp) et;exact ⟨_,(law10_weighNodes.ok k) fy d.pass0 eb⟩) (fun _ _ _ h=>h.2) j ?_
    intro a w d c;refine R q 2 c j fun a c=>E (T ?_);cases g;exact ⟨n,rf,c.kp j,(d.dropN 2 j)⟩
  rintro a w ⟨bs,l,c,d⟩;have g:=em;refine T (Cc (b:=c8) c j (fun ci=>?_) (fun ci=>?_))
  · replace g:=ct ci g;refine S (G ?_);obtain ⟨h0,fl,g⟩:=bd g;refine J cl_13 d c j j ((law10_alive.ok kAlive) fl d.pass0 ) j ?_;rintro a w _ gg _ ⟨rfl,rfl⟩ hc d c
    refine R q 1 c j fun a c=>E (T (V (Xr ?_)));cases g;refine N (v:=_) c j ⟨_,_,_,j,d.nil,j,j⟩
  replace g:=cf ci g;refine K (T (S ?_));obtain ⟨co,g,eu⟩:=bd g;refine X c d (fun e L a' w'=>∃ ao,bs.le ao∧Env a' 141 (sl e [2,3] [(5,.bool co)])∧Inv y n [] ao L w') ?_ ?_
  · refine G (L d c j (B q 1 j j j j) j fun a c=>?_);obtain ⟨f7,fv,g⟩:=bd g
    refine J cl_14 d c j j ((algebra_Total.ok k) fv d.pass0 (TNode.inv.2 ⟨aa,ac,ab,ad,j,(ae.m l),(af.m l)⟩)) j ?_;rintro a w _ dv _ ⟨rfl,rfl⟩ b3 d c
    refine R q 1 c j fun a c=>?_;rcases Bo f7 with bi | bi;rotate_left
    · replace g:=cf bi g;have c:=c.tr (t:=35) j bi;refine R q 4 c j fun a c=>E (T ?_);cases g;exact ⟨dv,b3,c.kp j,d⟩
    replace g:=ct bi g;have c:=c.tr (t:=35) j bi;refine L d c j (B q 0 j j j j) j fun a c=>?_;obtain ⟨h3,fw,g⟩:=bd g
    refine J cl_14 d c j j ((algebra_Total.ok k) fw d.pass0 (TNode.inv.2 ⟨ay,a2,ax,a3,j,(a4.m (l.t b3)),(a5.m (l.t b3))⟩)) j ?_
    rintro a w _ dw _ ⟨rfl,rfl⟩ e5 d c;refine R q 2 c j fun a c=>E (T ?_);cases g;exact ⟨dw,(b3.t e5),c.kp j,d⟩
  rintro a w ⟨ao,m,c,d⟩;have g:=eu;refine T (S (S (G (Bs ai_43 d c j j j j j fun a w d1 c d=>?_))))
  have c5:RL ao 1 ([(⟨#[97,110,100]⟩:ByteArray),(⟨#[111,114]⟩:ByteArray),(⟨#[61]⟩:ByteArray),(⟨#[60,62]⟩:ByteArray),(⟨#[60]⟩:ByteArray),(⟨#[60,61]⟩:ByteArray),(⟨#[62]⟩:ByteArray),(⟨#[62,61]⟩:ByteArray)].map D.str) _:=(Rc (rep_str.2 j) j (Rc (rep_str.2 j) j (Rc (rep_str.2 j) j (Rc (rep_str.2 j) j (Rc (rep_str.2 j) j (Rc (rep_str.2 j) j (Rc (rep_str.2 j) j (Rc (rep_str.2 j) j Rn))))))))
  refine R q 2 c j fun a c=>E (T ?_)
  have fc:=d.rle (xs:=[(⟨#[97,110,100]⟩:ByteArray),(⟨#[111,114]⟩:ByteArray),(⟨#[61]⟩:ByteArray),(⟨#[60,62]⟩:ByteArray),(⟨#[60]⟩:ByteArray),(⟨#[60,61]⟩:ByteArray),(⟨#[62]⟩:ByteArray),(⟨#[62,61]⟩:ByteArray)]) 0 j
  obtain ⟨da,ap,cz⟩:=bd g;refine X c d (fun e L a' w'=>∃ df am,da = .go df∧ao.le am∧Env a' 141 (sl e [2,3,5] [])∧Inv y n [] am L w') ?_ ?_
  ·
    refine O (Q c d (fun e L n' a' w'=>∃ i644 al de az,n'=List.length al∧i644≤([(⟨#[97,110,100]⟩:ByteArray),(⟨#[111,114]⟩:ByteArray),(⟨#[61]⟩:ByteArray),(⟨#[60,62]⟩:ByteArray),(⟨#[60]⟩:ByteArray),(⟨#[60,61]⟩:ByteArray),(⟨#[62]⟩:ByteArray),(⟨#[62,61]⟩:ByteArray)]).length∧([(⟨#[97,110,100]⟩:ByteArray),(⟨#[111,114]⟩:ByteArray),(⟨#[61]⟩:ByteArray),(⟨#[60,62]⟩:ByteArray),(⟨#[60]⟩:ByteArray),(⟨#[60,61]⟩:ByteArray),(⟨#[62]⟩:ByteArray),(⟨#[62,61]⟩:ByteArray)]).drop i644=al∧forL (law10_AlgebraTotal.b3 k i p co) i644 al de=some da∧ao.le az∧Env a' 141 (sl e [2,3,5,39,40] [(41,i_ (i644:Int))])∧Inv y n [] az L w') _ ⟨0,_,_,ao,j,Nat.zero_le _,j,ap,rf,c.kp j,d⟩ ?_)
    rintro hp a w ⟨i644,al,de,az,rfl,e9,bz,ap,ag,c,d⟩;rcases al with _ | ⟨hy,al⟩
    · obtain rfl:=Fn ap;have bo:=Do bz e9;refine S (G (R q 1 c j fun a c=>E (T (S ?_))))
      have c:=c.tr (t:=42) j (decide_eq_false (by simp only [List.length_cons,List.length_nil] at bo ⊢;omega));refine Fa c j (Ex (Xe (Xe (Xh (T (⟨_,az,j,ag,c.kp j,d⟩))))))
    obtain ⟨hu,g,ap⟩:=Fs ap;obtain ⟨hl,bz,bo⟩:=Dc bz;unfold law10_AlgebraTotal.b3 at g;refine S (G (R q 1 c j fun a c=>E (T (S ?_))))
    have c:=c.tr (t:=42) j (decide_eq_true (by simp only [List.length_cons,List.length_nil] at bo ⊢;omega));refine Tr c j (K (T (S (O (S (G ?_))))))
    obtain ⟨f6,b5,g⟩:=bd g;obtain ⟨g5,g9,ff,e1⟩:=Rt (c5.m ag) (Go b5).2;obtain rfl:=rep_str.1 ff
    refine L d c j (I q (Ro (Go b5).1 (Go b5).2 d1 1) j j j) j fun a c=>L d c j (f_loadR q 0 j e1 0 j j j j (Rl (c5.m ag) (Go b5).2)) j fun a c=>R q 1 c j fun a c=>E (T (S (G (R q 1 c j fun a c=>L d c j (B q 2 j j j j) j fun a c=>L d c j (B q 1 j j j j) j fun a c=>Bs ai_22 d c j j j j j fun a w d0 c d=>?_))))
    have er:RL az 5 ([i,p].map TNode.d) _:=(Rc (TNode.inv.2 ⟨aa,ac,ab,ad,j,(ae.m ((l.t m).t ag)),(af.m ((l.t m).t ag))⟩) j (Rc (TNode.inv.2 ⟨ay,a2,ax,a3,j,(a4.m ((l.t m).t ag)),(a5.m ((l.t m).t ag))⟩) j Rn))
    refine L d c j (Bd q j z_25 j j) j fun a c=>A d c j z_25 j j fun a w gu c d=>W q 0 d c j j j j j j j j j j fun a w c d=>E (T (S (G (L d c j (B q 0 j j j j) j fun a c=>?_))))
    obtain ⟨dn,fu,g⟩:=bd g
    refine Cl (S:=fun _ L' u=>L'=[]∧u = .bool dn) cl_14 d c j j (by obtain ⟨gk,hg,d,d9⟩:=(d.front 1).giveR (xs:=([i,p]).map TNode.d) (by simp) er;exact ⟨_,(algebra_Total.ok k) fu d.pass0 ((TNode.inv (x:=(TNode.mk (10:Int) (0:Int) f6 ([i,p]) []))).2 ⟨(p_ d0),2,none,0,j,d9,(Sn _ _ _ _ (Nat.zero_le _))⟩)⟩) (fun _ _ _ h=>h.2) j ?_
    intro a w d c;refine R q 1 c j fun a c=>L d c j (f_bne ub_4 j j) j fun a c=>E (T (Cc (b:=!(dn == co)) c j (fun ch=>?_) (fun ch=>?_)));rotate_left
    · replace g:=cf ch g;refine K (xB (T (G (R q 2 c j fun a c=>E (T ?_)))));cases g;have c:=c.setI (t:=41) j (Wc bo fc)
      exact ⟨al.length,Nat.lt_succ_self _,i644 + 1,al,_,az,j,bo,bz,ap,ag,c.kp j,(d.dropN 2 j)⟩
    replace g:=ct ch g;refine S (G (R q 1 c j fun a c=>E (T (V (Xb (Xr (Xr (Xb (Xr (Xr ?_))))))))));cases g;obtain rfl:=Nr ap;have g:=Le cz;cases g
    refine N (v:=_) c j ⟨_,_,_,j,d.nil,j,j⟩
  rintro a w ⟨df,am,rfl,o,c,d⟩;have g:=Lg cz;refine T (S (S (G (Bs ai_43 d c j j j j j fun a w dx c d=>?_))))
  have c3:RL am 1 ([(⟨#[43]⟩:ByteArray),(⟨#[45]⟩:ByteArray),(⟨#[42]⟩:ByteArray),(⟨#[47]⟩:ByteArray),(⟨#[37]⟩:ByteArray),(⟨#[124,124]⟩:ByteArray)].map D.str) _:=(Rc (rep_str.2 j) j (Rc (rep_str.2 j) j (Rc (rep_str.2 j) j (Rc (rep_str.2 j) j (Rc (rep_str.2 j) j (Rc (rep_str.2 j) j Rn))))))
  refine R q 2 c j fun a c=>E (T ?_)
  have fb:=d.rle (xs:=[(⟨#[43]⟩:ByteArray),(⟨#[45]⟩:ByteArray),(⟨#[42]⟩:ByteArray),(⟨#[47]⟩:ByteArray),(⟨#[37]⟩:ByteArray),(⟨#[124,124]⟩:ByteArray)]) 0 j;obtain ⟨db,aq,c0⟩:=bd g
  refine X c d (fun e L a' w'=>∃ dh a7,db = .go dh∧am.le a7∧Env a' 141 (sl e [2,3,5] [])∧Inv y n [] a7 [nt L 0,nt L 2,nt L 3] w') ?_ ?_
  ·
    refine O (Q c d (fun e L n' a' w'=>∃ i602 ak dg a0,n'=List.length ak∧i602≤([(⟨#[43]⟩:ByteArray),(⟨#[45]⟩:ByteArray),(⟨#[42]⟩:ByteArray),(⟨#[47]⟩:ByteArray),(⟨#[37]⟩:ByteArray),(⟨#[124,124]⟩:ByteArray)]).length∧([(⟨#[43]⟩:ByteArray),(⟨#[45]⟩:ByteArray),(⟨#[42]⟩:ByteArray),(⟨#[47]⟩:ByteArray),(⟨#[37]⟩:ByteArray),(⟨#[124,124]⟩:ByteArray)]).drop i602=ak∧forL (law10_AlgebraTotal.b2 k i p) i602 ak dg=some db∧am.le a0∧Env a' 141 (sl e [2,3,5,55,56] [(57,i_ (i602:Int))])∧Inv y n [] a0 [nt L 0,nt L 2,nt L 3] w') _ ⟨0,_,_,am,j,Nat.zero_le _,j,aq,rf,c.kp j,(d.pick [0,2,3] (by decide) j)⟩ ?_)
    rintro ho a w ⟨i602,ak,dg,a0,rfl,e8,bx,aq,ah,c,d⟩;rcases ak with _ | ⟨hx,ak⟩
    · obtain rfl:=Fn aq;have bn:=Do bx e8;refine S (G (R q 1 c j fun a c=>E (T (S ?_))))
      have c:=c.tr (t:=58) j (decide_eq_false (by simp only [List.length_cons,List.length_nil] at bn ⊢;omega));refine Fa c j (Ex (Xe (Xe (Xh (T (⟨_,a0,j,ah,c.kp j,d⟩))))))
    obtain ⟨ht,g,aq⟩:=Fs aq;obtain ⟨hk,bx,bn⟩:=Dc bx;unfold law10_AlgebraTotal.b2 at g;refine S (G (R q 1 c j fun a c=>E (T (S ?_))))
    have c:=c.tr (t:=58) j (decide_eq_true (by simp only [List.length_cons,List.length_nil] at bn ⊢;omega));refine Tr c j (K (T (S (O (S (G ?_))))))
    obtain ⟨f5,b4,g⟩:=bd g;obtain ⟨g4,g8,fe,e0⟩:=Rt (c3.m ah) (Go b4).2;obtain rfl:=rep_str.1 fe
    refine L d c j (I q (Ro (Go b4).1 (Go b4).2 dx 1) j j j) j fun a c=>L d c j (f_loadR q 0 j e0 0 j j j j (Rl (c3.m ah) (Go b4).2)) j fun a c=>R q 1 c j fun a c=>E (T (S (G (R q 1 c j fun a c=>L d c j (B q 2 j j j j) j fun a c=>L d c j (B q 1 j j j j) j fun a c=>Bs ai_22 d c j j j j j fun a w dz c d=>?_))))
    have eq:RL a0 5 ([i,p].map TNode.d) _:=(Rc (TNode.inv.2 ⟨aa,ac,ab,ad,j,(ae.m (((l.t m).t o).t ah)),(af.m (((l.t m).t o).t ah))⟩) j (Rc (TNode.inv.2 ⟨ay,a2,ax,a3,j,(a4.m (((l.t m).t o).t ah)),(a5.m (((l.t m).t o).t ah))⟩) j Rn))
    refine L d c j (Bd q j z_25 j j) j fun a c=>?_;obtain ⟨dm,ft,g⟩:=bd g
    refine Cl (S:=fun _ L' u=>L'=[]∧u = .bool dm) cl_14 d c j j (by obtain ⟨gj,hf,d,d8⟩:=(d.front 0).giveR (xs:=([i,p]).map TNode.d) (by simp) eq;exact ⟨_,(algebra_Total.ok k) ft d.pass0 ((TNode.inv (x:=(TNode.mk (10:Int) (0:Int) f5 ([i,p]) []))).2 ⟨(p_ dz),2,none,0,j,d8,(Sn _ _ _ _ (Nat.zero_le _))⟩)⟩) (fun _ _ _ h=>h.2) j ?_
    intro a w d c;refine E (T (Cc (b:=dm) c j (fun cg=>?_) (fun cg=>?_)));rotate_left
    · replace g:=cf cg g;refine K (xB (T (G (R q 2 c j fun a c=>E (T ?_)))));cases g;have c:=c.setI (t:=57) j (Wc bn fb)
      exact ⟨ak.length,Nat.lt_succ_self _,i602 + 1,ak,_,a0,j,bn,bx,aq,ah,c.kp j,(d.dropN 1 j)⟩
    replace g:=ct cg g;refine S (G (R q 1 c j fun a c=>E (T (V (Xb (Xr (Xr (Xb (Xr (Xr ?_))))))))));cases g;obtain rfl:=Nr aq;have g:=Le c0;cases g
    refine N (v:=_) c j ⟨_,_,_,j,d.nil,j,j⟩
  rintro a w ⟨dh,a7,rfl,s,c,d⟩;have g:=Lg c0
  refine T (S (G (L d c j (B q 2 j j j j) j fun a c=>Bs ai_22 d c j j j j j fun a w cq c d=>?_)))
  have ee:RL a7 5 ([i].map TNode.d) _:=(Rc (TNode.inv.2 ⟨aa,ac,ab,ad,j,(ae.m (((l.t m).t o).t s)),(af.m (((l.t m).t o).t s))⟩) j Rn)
  refine L d c j (Bd q j z_25 j j) j fun a c=>A d c j z_25 j j fun a w gp c d=>W q 0 d c j j j j j j j j j j fun a w c d=>E (T (S (G (L d c j (B q 4 j j j j) j fun a c=>Bs ai_22 d c j j j j j fun a w dy c d=>?_))))
  have ef:RL a7 5 ([i].map TNode.d) _:=(Rc (TNode.inv.2 ⟨aa,ac,ab,ad,j,(ae.m (((l.t m).t o).t s)),(af.m (((l.t m).t o).t s))⟩) j Rn)
  refine L d c j (Bd q j z_25 j j) j fun a c=>A d c j z_25 j j fun a w gq c d=>W q 0 d c j j j j j j j j j j fun a w c d=>E (T (S (G (L d c j (B q 6 j j j j) j fun a c=>L d c j (B q 5 j j j j) j fun a c=>L d c j (B q 2 j j j j) j fun a c=>?_))))
  obtain ⟨a8,z,d,cw⟩:=(d.front 3).giveR (xs:=([i]).map TNode.d) (by simp) ee;refine Bs ai_22 d c j j j j j fun a w cr c d=>?_
  have c4:RL a8 5 ([i,p,(TNode.mk (8:Int) (0:Int) (⟨#[]⟩:ByteArray) ([i]) [])].map TNode.d) _:=(Rc (TNode.inv.2 ⟨aa,ac,ab,ad,j,(ae.m ((((l.t m).t o).t s).t z)),(af.m ((((l.t m).t o).t s).t z))⟩) j (Rc (TNode.inv.2 ⟨ay,a2,ax,a3,j,(a4.m ((((l.t m).t o).t s).t z)),(a5.m ((((l.t m).t o).t s).t z))⟩) j (Rc ((TNode.inv (x:=(TNode.mk (8:Int) (0:Int) (⟨#[]⟩:ByteArray) ([i]) []))).2 ⟨(p_ cq),1,none,0,j,cw,(Sn _ _ _ _ (Nat.zero_le _))⟩) j Rn)))
  refine L d c j (Bd q j z_25 j j) j fun a c=>A d c j z_25 j j fun a w gr c d=>W q 0 d c j j j j j j j j j j fun a w c d=>E (T (S (S ?_)))
  obtain ⟨c7,g,eg⟩:=bd g;refine X c d (fun e L a' w'=>∃ b7,a8.le b7∧Env a' 141 (sl e [2,3,13] [(93,.bool c7)])∧Inv y n [] b7 [nt L 0,nt L 1,nt L 6,nt L 7] w') ?_ ?_
  · refine Cd mixed (by kernel_rfl) d (Z c j (B q 4 j j j j) j fun a c=>?_);obtain ⟨f2,fp,g⟩:=bd g
    refine Qc cl_14 c j j (fun w d=>(algebra_Total.ok k) fp d.pass0 ((TNode.inv (x:=(TNode.mk (8:Int) (0:Int) (⟨#[]⟩:ByteArray) ([i]) []))).2 ⟨(p_ cq),1,none,0,j,cw,(Sn _ _ _ _ (Nat.zero_le _))⟩)) (fun _ _ _ h=>h.2) j fun a c=>Z c j (B q 7 j j j j) j fun a c=>?_
    obtain ⟨f3,fq,g⟩:=bd g
    refine Qc cl_14 c j j (fun w d=>(algebra_Total.ok k) fq d.pass0 (TNode.inv.2 ⟨aa,ac,ab,ad,j,(ae.m ((((l.t m).t o).t s).t z)),(af.m ((((l.t m).t o).t s).t z))⟩)) (fun _ _ _ h=>h.2) j fun a c=>Z c j (f_bne ub_4 j j) j fun a c=>Y q 1 c j fun a c=>?_
    rcases Bo (!(f2 == f3)) with bg | bg
    · replace g:=ct bg g;have c:=c.tr (t:=84) j bg;refine Y q 9 c j fun a c=>Qe ?_;intro w d;refine T ?_;cases g
      exact ⟨a8,rf,c.kp j,(d.pick [0,1,6,7] (by decide) j)⟩
    replace g:=cf bg g;have c:=c.tr (t:=84) j bg;refine Z c j (B q 2 j j j j) j fun a c=>?_;obtain ⟨dl,fr,g⟩:=bd g
    refine q_callL (S:=fun _ L' u=>L'=[]∧u = .bool dl) cl_14 c j j (fun w d=>(by obtain ⟨gh,hd,d,d6⟩:=(d.front 3).giveR (xs:=([i]).map TNode.d) (by simp) (ef.m z);exact ⟨_,(algebra_Total.ok k) fr d.pass0 ((TNode.inv (x:=(TNode.mk (7:Int) (0:Int) (⟨#[]⟩:ByteArray) ([i]) []))).2 ⟨(p_ dy),1,none,0,j,d6,(Sn _ _ _ _ (Nat.zero_le _))⟩)⟩)) (fun _ _ _ h=>h.2) j fun a c=>Y q 2 c j fun a c=>?_
    rcases Bo dl with bh | bh
    · replace g:=ct bh g;have c:=c.tr (t:=88) j bh;refine Y q 5 c j fun a c=>Qe ?_;intro w d;refine T ?_;cases g
      exact ⟨a8,rf,c.kp j,(d.pick [0,1,6,7] (by decide) j)⟩
    replace g:=cf bh g;have c:=c.tr (t:=88) j bh;refine Z c j (B q 0 j j j j) j fun a c=>?_;obtain ⟨f4,fs,g⟩:=bd g
    refine q_callL (S:=fun _ L' u=>L'=[]∧u = .bool f4) cl_14 c j j (fun w d=>(by obtain ⟨gi,he,d,d7⟩:=(d.front 1).giveR (xs:=([i,p,(TNode.mk (8:Int) (0:Int) (⟨#[]⟩:ByteArray) ([i]) [])]).map TNode.d) (by simp) c4;exact ⟨_,(algebra_Total.ok k) fs d.pass0 ((TNode.inv (x:=(TNode.mk (11:Int) (0:Int) (⟨#[]⟩:ByteArray) ([i,p,(TNode.mk (8:Int) (0:Int) (⟨#[]⟩:ByteArray) ([i]) [])]) []))).2 ⟨(p_ cr),3,none,0,j,d7,(Sn _ _ _ _ (Nat.zero_le _))⟩)⟩)) (fun _ _ _ h=>h.2) j fun a c=>Y q 1 c j fun a c=>Z c j (f_bne ub_4 j j) j fun a c=>Y q 1 c j fun a c=>Qe ?_
    intro w d;refine T ?_;cases g;exact ⟨a8,rf,c.kp j,(d.pick [0,1,6,7] (by decide) j)⟩
  rintro a w ⟨b7,bk,c,d⟩;have g:=eg;refine T (Cc (b:=c7) c j (fun ce=>?_) (fun ce=>?_))
  · replace g:=ct ce g;refine S (G (R q 1 c j fun a c=>E (T (V (Xr ?_)))));cases g;refine N (v:=_) c j ⟨_,_,_,j,d.nil,j,j⟩
  replace g:=cf ce g
  refine K (T (S (Mx [0,2,3] [5] (.step 0 1 (.step 2 1 (.step 4 1 (.step 1 2 (.step 3 2 (.step 5 3 (.step 6 0 (.step 7 0 (.step 8 0 .nil))))))))) mixed (mixF_all (by kernel_rfl)) d (by decide) j fun w d hS=>Dd hS c j j (Rw fun _=>(B q 2 j j j j)) j fun a c=>Dd hS c j j (Rw fun _=>(B q 1 j j j j)) j fun a c=>Dd hS c j j (Rw fun _=>(B q 0 j j j j)) j fun a c=>Df j ?_)))
  obtain ⟨a6,fh,g⟩:=bd g
  refine J cl_15 d c j j ((algebra_Uses.ok k) fh d.pass0 (TNode.inv.2 ⟨aa,ac,ab,ad,j,(ae.m (((((l.t m).t o).t s).t z).t bk)),(af.m (((((l.t m).t o).t s).t z).t bk))⟩)) j ?_
  rintro a w _ gd _ ⟨rfl,f9,gx,rfl,cx⟩ bl d c;refine De (d.sw [0,2,3] (by decide) j bl) fun hS=>Df j ?_;obtain ⟨bq,fi,g⟩:=bd g
  refine J cl_15 d c j j ((algebra_Uses.ok k) fi d.pass0 (TNode.inv.2 ⟨ay,a2,ax,a3,j,(a4.m ((((((l.t m).t o).t s).t z).t bk).t bl)),(a5.m ((((((l.t m).t o).t s).t z).t bk).t bl))⟩)) j ?_
  rintro a w _ ge _ ⟨rfl,ga,gy,rfl,cy⟩ b0 d c;refine De (d.sw [0,2,3] (by decide) j (bl.t b0)) fun hS=>Dl j ?_
  obtain ⟨gf,b2,d,d5⟩:=(d.front 1).giveR (xs:=([i,p,(TNode.mk (8:Int) (0:Int) (⟨#[]⟩:ByteArray) ([i]) [])]).map TNode.d) (by simp) (c4.m ((bk.t bl).t b0))
  obtain ⟨b6,fj,g⟩:=bd g
  refine J cl_15 d c j j ((algebra_Uses.ok k) fj d.pass0 ((TNode.inv (x:=(TNode.mk (11:Int) (0:Int) (⟨#[]⟩:ByteArray) ([i,p,(TNode.mk (8:Int) (0:Int) (⟨#[]⟩:ByteArray) ([i]) [])]) []))).2 ⟨(p_ cr),3,none,0,j,d5,(Sn _ _ _ _ (Nat.zero_le _))⟩)) j ?_
  rintro a w _ b8 _ ⟨rfl,gb,gz,rfl,cb⟩ b1 d c
  refine Dn (H q 3 c j fun a c=>Dz (T (S (G (R q 1 c j fun a c=>E (T (S (S (G (R q 3 c j fun a c=>E (T ?_)))))))))))
  obtain ⟨dc,ar,c1⟩:=bd g;refine X c d (fun e L a' w'=>∃ dk an,dc = .go dk∧b8.le an∧Env a' 141 (sl e [14,15,16,17] [])∧Inv y n [] an [] w') ?_ ?_
  ·
    refine O (Q c d (fun e L n' a' w'=>∃ i541 aj dj a9,n'=List.length aj∧i541≤b6.length∧b6.drop i541=aj∧forL (law10_AlgebraTotal.b1 k a6 bq) i541 aj dj=some dc∧b8.le a9∧Env a' 141 (sl e [14,15,16,17,100,101] [(102,i_ (i541:Int))])∧Inv y n [] a9 [] w') _ ⟨0,_,_,b8,j,Nat.zero_le _,j,ar,rf,c.kp j,(d.dropN 3 j)⟩ ?_)
    rintro hn a w ⟨i541,aj,dj,a9,rfl,e7,bw,ar,bm,c,d⟩;rcases aj with _ | ⟨hw,aj⟩
    · obtain rfl:=Fn ar;have cn:=Do bw e7;refine S (G (R q 1 c j fun a c=>E (T (S ?_))));have c:=c.tr (t:=103) j (decide_eq_false (by omega))
      refine Fa c j (Ex (Xe (Xe (Xh (T (⟨_,a9,j,bm,c.kp j,d⟩))))))
    obtain ⟨hs,g,ar⟩:=Fs ar;obtain ⟨fg,bw,cn⟩:=Dc bw;unfold law10_AlgebraTotal.b1 at g;refine S (G (R q 1 c j fun a c=>E (T (S ?_))))
    have c:=c.tr (t:=103) j (decide_eq_true (by omega));refine Tr c j (K (T (S (O (S (G ?_))))))
    obtain ⟨gt,hq,cs,ey,eo,ec⟩:=Sa (cb.m bm) (Int.natCast_nonneg _) (natIdx fg);obtain rfl:=rep_int.1 eo
    refine L d c j (I q ey j j j) j fun a c=>L d c j (Fg q ec 0 j j j j) j fun a c=>R q 1 c j fun a c=>E (T (S ?_))
    obtain ⟨c9,g,ep⟩:=bd g;refine X c d (fun e L a' w'=>∃ bt,a9.le bt∧Env a' 141 (sl e [14,15,16,17,100,101,102] [(115,.bool c9)])∧Inv y n [] bt L w') ?_ ?_;rotate_left
    · rintro a w ⟨bt,e3,c,d⟩;have g:=ep;refine T (Cc (b:=c9) c j (fun cd=>?_) (fun cd=>?_))
      · replace g:=ct cd g;refine S (G (R q 1 c j fun a c=>E (T (V (Xb (Xr (Xr (Xb (Xr (Xr ?_))))))))));cases g;obtain rfl:=Nr ar;have g:=Le c1;cases g
        refine N (v:=_) c j ⟨_,_,_,j,d.nil,j,j⟩
      replace g:=cf cd g;refine K (xB (T (G (R q 2 c j fun a c=>E (T ?_)))));cases g;have c:=c.setI (t:=102) j (Wc cn (Ln cb))
      exact ⟨aj.length,Nat.lt_succ_self _,i541 + 1,aj,_,bt,j,cn,bw,ar,(bm.t e3),c.kp j,d⟩
    refine G (R q 2 c j fun a c=>?_);obtain ⟨f1,fn,g⟩:=bd g;refine J cl_16 d c j j ((law10_in.ok k) fn d.pass0 (cx.m (((b0.t b2).t b1).t bm))) j ?_
    rintro a w _ dt _ ⟨rfl,rfl⟩ cl d c;refine R q 2 c j fun a c=>?_;rcases Bo (!f1) with bf | bf;rotate_left
    · replace g:=cf bf g;have c:=c.tr (t:=110) j bf;refine R q 5 c j fun a c=>E (T ?_);cases g;exact ⟨dt,cl,c.kp j,d⟩
    replace g:=ct bf g;have c:=c.tr (t:=110) j bf;refine R q 2 c j fun a c=>?_;obtain ⟨h2,fo,g⟩:=bd g
    refine J cl_16 d c j j ((law10_in.ok k) fo d.pass0 (cy.m (((b2.t b1).t bm).t cl))) j ?_;rintro a w _ du _ ⟨rfl,rfl⟩ e4 d c
    refine R q 2 c j fun a c=>E (T ?_);cases g;exact ⟨du,(cl.t e4),c.kp j,d⟩
  rintro a w ⟨dk,an,rfl,cj,c,d⟩;have g:=Lg c1;refine T (S (S (G (Bs ai_26 d c j j j j j fun a w gs c d=>?_))))
  have eh:RL an 1 (([]:List Int).map di) []:=Rn;refine R q 1 c j fun a c=>?_;obtain ⟨_,ew,g⟩:=bd g
  refine s_appG (f:=di) (xs:=([]:List Int)) (ys:=a6) ai_26 0 d c j j (cx.m (((b0.t b2).t b1).t cj)) j j (Ll ew) j fun a w gc g0 d3 c ej d=>?_
  have ei:=Ra eh ej;refine R q 1 c j fun a c=>?_;obtain ⟨_,ex,g⟩:=bd g
  refine s_appG (f:=di) (xs:=(([]:List Int) ++ a6)) (ys:=bq) ai_26 0 d c j j (cy.m ((b2.t b1).t cj)) j j (Ll ex) j fun a w dq d2 d4 c el d=>?_
  have ek:=Ra ei el;refine R q 2 c j fun a c=>E (T ?_);have fa:=d.rle (xs:=((([]:List Int) ++ a6) ++ bq)) 0 j;obtain ⟨dd,au,c2⟩:=bd g
  refine X c d (fun e L a' w'=>∃ aw a1 cp cv ca,dd = .go aw∧an.le a1∧Env a' 141 (sl e [16] [(17,i_ aw.2)])∧Inv y n [] a1 [.row (.slice cp aw.1.length cv) 3 1 aw.1.length ca] w'∧RL a1 1 (aw.1.map di) ca) ?_ ?_
  rotate_left
  · rintro a w ⟨aw,a1,cp,cv,ca,rfl,ha,c,d,g6⟩;have g:=Lg c2;refine T (S ?_);obtain ⟨fz,g,en⟩:=bd g
    refine X c d (fun e L a' w'=>∃ b9,a1.le b9∧Env a' 141 [(4,.bool fz)]∧Inv y n [] b9 [] w') ?_ ?_;rotate_left
    · rintro a w ⟨b9,hb,c,d⟩;have g:=en;refine T (V ?_);cases g;refine N (v:=_) c j ⟨_,_,_,j,d.nil,j,j⟩
    refine G (R q 5 c j fun a c=>?_);rcases Bo (decide ((b6.length:Int)≤aw.2)) with be | be;rotate_left
    · replace g:=cf be g;have c:=c.tr (t:=138) j be;refine R q 3 c j fun a c=>E (T ?_);cases g;exact ⟨a1,rf,c.kp j,(d.dropN 1 j)⟩
    replace g:=ct be g;have c:=c.tr (t:=138) j be;obtain ⟨hz,fk,g⟩:=bd g;refine J cl_13 d c j j ((law10_alive.ok kAlive) fk d.pass0 ) j ?_
    rintro a w _ dr _ ⟨rfl,rfl⟩ e2 d c;refine R q 2 c j fun a c=>E (T ?_);cases g;exact ⟨dr,e2,c.kp j,(d.dropN 1 j)⟩
  
  refine O (Q c d (fun e L n' a' w'=>∃ i517 ai av ba br bb bc,n'=List.length ai∧i517≤((([]:List Int) ++ a6) ++ bq).length∧((([]:List Int) ++ a6) ++ bq).drop i517=ai∧forL (law10_AlgebraTotal.b0 k b6) i517 ai av=some dd∧an.le ba∧Env a' 141 (sl e [16,122] [(123,i_ (i517:Int)),(17,i_ av.2),(121,.slice br av.1.length bb)])∧Inv y n [] ba [.row (.slice br av.1.length bb) 3 1 av.1.length bc] w'∧RL ba 1 (av.1.map di) bc) _ ⟨0,_,_,an,dq,d2,(([] ++ d3) ++ d4),j,Nat.zero_le _,j,au,rf,c.kp j,d,ek⟩ ?_)
  rintro hm a w ⟨i517,ai,av,ba,br,bb,bc,rfl,e6,bv,au,ck,c,d,bu⟩;rcases ai with _ | ⟨hv,ai⟩
  · obtain rfl:=Fn au;have cm:=Do bv e6;refine S (G (R q 1 c j fun a c=>E (T (S ?_))));have c:=c.tr (t:=124) j (decide_eq_false (by omega))
    refine Fa c j (Ex (Xe (Xe (Xh (T (⟨_,ba,br,bb,bc,j,ck,c.kp j,d,bu⟩))))))
  obtain ⟨hr,g,au⟩:=Fs au;obtain ⟨hj,bv,cm⟩:=Dc bv;unfold law10_AlgebraTotal.b0 at g;refine S (G (R q 1 c j fun a c=>E (T (S ?_))))
  have c:=c.tr (t:=124) j (decide_eq_true (by omega));refine Tr c j (K (T (S (O (S (G ?_))))));obtain ⟨h1,bp,g⟩:=bd g
  obtain ⟨cu,rfl⟩:=row_ptr 0 d j j (Go bp).2;obtain ⟨g3,g7,fd,ez⟩:=Rt bu (Go bp).2;obtain rfl:=rep_int.1 fd
  refine L d c j (I q (Ro (Go bp).1 (Go bp).2 cu 1) j j j) j fun a c=>L d c j (f_loadR q 0 j ez 0 j j j j (Rl bu (Go bp).2)) j fun a c=>R q 1 c j fun a c=>E (T (S (S (G (R q 2 c j fun a c=>?_)))))
  obtain ⟨f0,fm,g⟩:=bd g;refine J cl_16 d c j j ((law10_in.ok k) fm d.pass0 (cb.m (cj.t ck))) j ?_;rintro a w _ ds _ ⟨rfl,rfl⟩ c6 d c
  refine R q 1 c j fun a c=>E (T (Cc (b:=!f0) c j (fun cc=>?_) (fun cc=>?_)))
  · replace g:=ct cc g;refine S (G (R q 1 c j fun a c=>E (T (V (Xr (Xb (Xr (Xr (Xb (Xr (Xr ?_)))))))))));cases g;obtain rfl:=Nr au;have g:=Le c2;cases g
    refine N (v:=_) c j ⟨_,_,_,j,d.nil,j,j⟩
  replace g:=cf cc g;refine K (T (G (R q 3 c j fun a c=>E (xB (T (G (R q 2 c j fun a c=>E (T ?_))))))));cases g
  have c:=c.setI (t:=123) j (Wc cm fa)
  exact ⟨ai.length,Nat.lt_succ_self _,i517 + 1,ai,_,ds,(p_ cu),bb,bc,j,cm,bv,au,(ck.t c6),c.kp j,d,(bu.m c6)⟩
end Go.Proofs.YtlokemkpgnngjaaGreatDoor
