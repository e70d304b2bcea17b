/- The contracts: what the machine does at a call is what the plain function says. Written by mk.py. -/
import Derived.Test.YtliaopbgkcdibaaGreatCgP6
set_option linter.unusedVariables false
set_option linter.unusedSimpArgs false
set_option maxRecDepth 100000
namespace Go.Proofs.YtliaopbgkcdibaaGreat
open Go.RowKit
theorem ref05_Marks.ok (k:Nat):ref05_Marks.C (ref05_Marks k):=by
  intro  r d m e  c
  unfold ref05_Marks at d
  refine Ci 2 Tryz.func86 j j j fun a b=>?_
  refine S (G (R q 1 b j fun a b=>E (T (S (G (Bs ai_22 c b j j j j j fun a w f b c=>?_))))))
  have h:RL e 1 ([(⟨#[124,124]⟩:ByteArray),(⟨#[60,62]⟩:ByteArray),(⟨#[60,61]⟩:ByteArray),(⟨#[62,61]⟩:ByteArray),(⟨#[40]⟩:ByteArray),(⟨#[41]⟩:ByteArray),(⟨#[44]⟩:ByteArray),(⟨#[59]⟩:ByteArray),(⟨#[46]⟩:ByteArray),(⟨#[42]⟩:ByteArray),(⟨#[43]⟩:ByteArray),(⟨#[45]⟩:ByteArray),(⟨#[47]⟩:ByteArray),(⟨#[37]⟩:ByteArray),(⟨#[61]⟩:ByteArray),(⟨#[60]⟩:ByteArray),(⟨#[62]⟩:ByteArray),(⟨#[123]⟩:ByteArray),(⟨#[125]⟩:ByteArray),(⟨#[58]⟩:ByteArray)].map D.str) _:=(Rc (rep_str.2 j) j (Rc (rep_str.2 j) j (Rc (rep_str.2 j) j (Rc (rep_str.2 j) j (Rc (rep_str.2 j) j (Rc (rep_str.2 j) j (Rc (rep_str.2 j) j (Rc (rep_str.2 j) j (Rc (rep_str.2 j) j (Rc (rep_str.2 j) j (Rc (rep_str.2 j) j (Rc (rep_str.2 j) j (Rc (rep_str.2 j) j (Rc (rep_str.2 j) j (Rc (rep_str.2 j) j (Rc (rep_str.2 j) j (Rc (rep_str.2 j) j (Rc (rep_str.2 j) j (Rc (rep_str.2 j) j (Rc (rep_str.2 j) j Rn))))))))))))))))))))
  refine R q 1 b j fun a b=>E (T ?_)
  obtain ⟨i,l,c,g⟩:=(c.front 0).giveR (xs:=([(⟨#[124,124]⟩:ByteArray),(⟨#[60,62]⟩:ByteArray),(⟨#[60,61]⟩:ByteArray),(⟨#[62,61]⟩:ByteArray),(⟨#[40]⟩:ByteArray),(⟨#[41]⟩:ByteArray),(⟨#[44]⟩:ByteArray),(⟨#[59]⟩:ByteArray),(⟨#[46]⟩:ByteArray),(⟨#[42]⟩:ByteArray),(⟨#[43]⟩:ByteArray),(⟨#[45]⟩:ByteArray),(⟨#[47]⟩:ByteArray),(⟨#[37]⟩:ByteArray),(⟨#[61]⟩:ByteArray),(⟨#[60]⟩:ByteArray),(⟨#[62]⟩:ByteArray),(⟨#[123]⟩:ByteArray),(⟨#[125]⟩:ByteArray),(⟨#[58]⟩:ByteArray)]).map D.str) (by simp) h
  refine V ?_;cases d;refine N (v:=_) b j ⟨_,_,_,j,c.nil,j,(p_ f),20,j,g⟩

theorem cl_78:Callable Tryz.prog 78:=⟨_,Tryz.func78,by kernel_rfl,by kernel_rfl⟩

def ref05_one.C (s:ByteArray→Int→Option (TToken × Int × Int × Int)):Prop:=∀ {d e r},s d e=some r→∀ {b c },Inv b c [] c [] b→Calls Tryz.prog 78 #[.string d,i_ e] b (Ret b c [] fun G' L' v=>L'=[]∧v = .tuple ⟨[.agg ⟨[i_ r.1.Kind,.string r.1.Text,i_ r.1.N,i_ r.1.At]⟩,i_ r.2.1,i_ r.2.2.1,i_ r.2.2.2]⟩)

theorem ref05_one.ok (k:Nat):ref05_one.C (ref05_one k):=by
  intro ah x r d h g  f
  unfold ref05_one at d
  refine Ci 166 Tryz.func78 j j j fun a c=>?_
  
  refine S (G (A f c j z_131 j j fun a w c8 c f=>R q 3 c j fun a c=>E (T (S (G (L f c j (Bd q j z_131 j j) j fun a c=>A f c j z_131 j j fun a w c9 c f=>W q 0 f c j j j j j j j j j j fun a w c f=>E (T (S (G (R q 2 c j fun a c=>E (T (S (S ?_)))))))))))))
  obtain ⟨bh,d,b3⟩:=bd d;refine X c f (fun e L a' w'=>∃ an,g.le an∧Env a' 166 (sl e [0,1,4,8,9] [(30,.bool bh)])∧Inv h g [] an L w') ?_ ?_
  · refine G (R q 2 c j fun a c=>?_);obtain ⟨d5,cz,d⟩:=bd d;refine L f c j (f_sidx q j j j cz) j fun a c=>?_;obtain ⟨c4,co,d⟩:=bd d
    refine J cl_83 f c j j ((ref05_letter.ok k) co f.pass0 ) j ?_;rintro a w _ bs _ ⟨rfl,rfl⟩ bg f c;refine R q 1 c j fun a c=>?_;rcases Bo c4 with af | af
    · replace d:=ct af d;have c:=c.tr (t:=25) j af;refine R q 5 c j fun a c=>E (T ?_);cases d;exact ⟨bs,bg,c.kp j,f⟩
    replace d:=cf af d;have c:=c.tr (t:=25) j af;refine R q 2 c j fun a c=>?_;obtain ⟨d6,c0,d⟩:=bd d;refine L f c j (f_sidx q j j j c0) j fun a c=>?_
    obtain ⟨dz,cp,d⟩:=bd d;refine J cl_84 f c j j ((ref05_digit.ok k) cp f.pass0 ) j ?_;rintro a w _ bt _ ⟨rfl,rfl⟩ ch f c;refine R q 1 c j fun a c=>E (T ?_);cases d
    exact ⟨bt,(bg.t ch),c.kp j,f⟩
  rintro a w ⟨an,dj,c,f⟩;have d:=b3;refine T (Cc (b:=bh) c j (fun a1=>?_) (fun a1=>?_));rotate_left
  · replace d:=cf a1 d;refine K (T (S (S (G (R q 2 c j fun a c=>?_)))));obtain ⟨c5,cw,d⟩:=bd d
    refine L f c j (f_sidx q j j j cw) j fun a c=>R q 1 c j fun a c=>E (T (Cc (b:=decide (c5=(39:Int))) c j (fun a0=>?_) (fun a0=>?_)))
    · replace d:=ct a0 d;refine S (G (R q 2 c j fun a c=>?_));obtain ⟨c3,cl,d⟩:=bd d;refine J cl_85 f c j j ((ref05_text.ok k) cl f.pass0 ) j ?_
      rintro a w _ c7 _ ⟨rfl,rfl⟩ dk f c
      refine R q 9 c j fun a c=>E (T (S (S (G (R q 2 c j fun a c=>E (T (Cc (b:=!decide (c3.2.2.2=(0:Int))) c j (fun ay=>?_) (fun ay=>?_))))))))
      · replace d:=ct ay d
        refine S (G (L f c j (B q 0 j j j j) j fun a c=>R q 2 c j fun a c=>W q 1 f c j j j j j j j j j j fun a w c f=>R q 3 c j fun a c=>E (T (V (Xr (Xr ?_))))))
        cases d;refine U q c f (.cell 1 j j j j (.tmp j (.tmp j (.tmp j .nil)))) j ⟨_,_,_,j,f.nil,j,j⟩
      replace d:=cf ay d
      refine K (T (S (G (R q 2 c j fun a c=>L f c j (Bd q j z_131 j j) j fun a c=>R q 1 c j fun a c=>W q 1 f c j j j j j j j j j j fun a w c f=>R q 3 c j fun a c=>E (T (V (Xr ?_)))))))
      cases d;refine U q c f (.cell 1 j j j j (.tmp j (.tmp j (.tmp j .nil)))) j ⟨_,_,_,j,f.nil,j,j⟩
    replace d:=cf a0 d;refine K (T (S (G ?_)));obtain ⟨bp,cm,d⟩:=bd d;refine J cl_86 f c j j ((ref05_Marks.ok k) cm f.pass0 ) j ?_
    rintro a w _ ao _ ⟨rfl,c6,df,rfl,v⟩ dl f c;refine R q 1 c j fun a c=>E (T (S (S (G (R q 1 c j fun a c=>E (T ?_))))));obtain ⟨bm,o,bb⟩:=bd d
    refine X c f (fun e L a' w'=>∃ bo aq,bm = .go bo∧ao.le aq∧Env a' 166 (sl e [1,4,8] [])∧Inv h g [] aq L w') ?_ ?_;rotate_left
    · rintro a w ⟨bo,aq,rfl,dn,c,f⟩;have d:=Lg bb
      refine T (S (G (L f c j (B q 0 j j j j) j fun a c=>R q 1 c j fun a c=>W q 1 f c j j j j j j j j j j fun a w c f=>R q 3 c j fun a c=>E (T (V ?_)))))
      cases d;refine U q c f (.cell 1 j j j j (.tmp j (.tmp j (.tmp j .nil)))) j ⟨_,_,_,j,f.nil,j,j⟩
    
    refine O (Q c f (fun e L n' a' w'=>∃ i339 i bn l,n'=List.length i∧i339≤bp.length∧bp.drop i339=i∧forL (ref05_one.b2 k ah x) i339 i bn=some bm∧ao.le l∧Env a' 166 (sl e [0,1,4,8,17] [(18,i_ (i339:Int))])∧Inv h g [] l L w') _ ⟨0,_,_,ao,j,Nat.zero_le _,j,o,rf,c.kp j,f⟩ ?_)
    rintro dp a w ⟨i339,i,bn,l,rfl,ci,ak,o,p,c,f⟩;rcases i with _ | ⟨c1,i⟩
    · obtain rfl:=Fn o;have a4:=Do ak ci;refine S (S (G (R q 4 c j fun a c=>E (T ?_))));have c:=c.tr (t:=121) j (decide_eq_false (by omega))
      refine Fa c j (Ex (Xe (Xe (Xh (T (⟨_,l,j,p,c.kp j,f⟩))))))
    obtain ⟨dx,d,o⟩:=Fs o;obtain ⟨ag,ak,a4⟩:=Dc ak;unfold ref05_one.b2 at d;refine S (S (G (R q 4 c j fun a c=>E (T ?_))))
    have c:=c.tr (t:=121) j (decide_eq_true (by omega));refine Tr c j (K (T (S (O (S ?_)))));obtain ⟨bj,d,b4⟩:=bd d
    refine X c f (fun e L a' w'=>∃ aj,l.le aj∧Env a' 166 (sl e [0,1,4,8,17,18] [(150,.bool bj)])∧Inv h g [] aj L w') ?_ ?_
    · refine Cd mixed (by kernel_rfl) f (Y q 6 c j fun a c=>?_);obtain ⟨dc,ds,cs,cc,b7,bw⟩:=Sa (v.m p) (Int.natCast_nonneg _) (natIdx ag);obtain rfl:=rep_str.1 b7
      refine Z c j (I q cc j j j) j fun a c=>Z c j (Fg q bw 0 j j j j) j fun a c=>Y q 3 c j fun a c=>?_
      rcases Bo (decide ((c1.size:Int)≤(w64 ((ah.size:Int) - x)))) with ae | ae;rotate_left
      · replace d:=cf ae d;have c:=c.tr (t:=134) j ae;refine Y q 16 c j fun a c=>Qe ?_;intro w f;refine T ?_;cases d;exact ⟨l,rf,c.kp j,f⟩
      replace d:=ct ae d;have c:=c.tr (t:=134) j ae;refine Y q 5 c j fun a c=>?_;obtain ⟨dd,dt,cs,cd,b8,bx⟩:=Sa (v.m p) (Int.natCast_nonneg _) (natIdx ag)
      obtain rfl:=rep_str.1 b8;refine Z c j (I q cd j j j) j fun a c=>Z c j (Fg q bx 0 j j j j) j fun a c=>Y q 2 c j fun a c=>?_
      obtain ⟨d4,cy,d⟩:=bd d;refine Z c j (f_scut q j j j j cy) j fun a c=>Y q 2 c j fun a c=>?_
      obtain ⟨de,du,cs,ce,b9,bz⟩:=Sa (v.m p) (Int.natCast_nonneg _) (natIdx ag);obtain rfl:=rep_str.1 b9
      refine Z c j (I q ce j j j) j fun a c=>Z c j (Fg q bz 0 j j j j) j fun a c=>Y q 2 c j fun a c=>Qe ?_;intro w f;refine T ?_;cases d
      exact ⟨l,rf,c.kp j,f⟩
    rintro a w ⟨aj,a3,c,f⟩;have d:=b4;refine T (Cc (b:=bj) c j (fun az=>?_) (fun az=>?_));rotate_left
    · replace d:=cf az d;refine K (xB (T (G (R q 3 c j fun a c=>E (T ?_)))));cases d;have c:=c.setI (t:=18) j (Wc a4 (Ln v))
      exact ⟨i.length,Nat.lt_succ_self _,i339 + 1,i,_,aj,j,a4,ak,o,(p.t a3),c.kp j,f⟩
    replace d:=ct az d
    refine S (Mx [] [] (.step 0 0 (.step 1 0 (.step 2 0 (.step 3 1 (.step 4 0 (.step 5 0 (.step 6 0 (.step 7 0 (.step 8 0 (.step 9 0 (.step 10 1 (.step 11 0 (.step 12 0 (.step 13 2 (.step 14 0 (.step 15 0 (.step 16 0 .nil))))))))))))))))) mixed (by kernel_rfl) f (by decide) j fun w f hS=>H q 2 c j fun a c=>?_)
    obtain ⟨da,dq,cs,ca,b5,bu⟩:=Sa (v.m (p.t a3)) (Int.natCast_nonneg _) (natIdx ag);obtain rfl:=rep_str.1 b5
    refine Dr c j j (I q ca j j j) j fun a c=>Dd hS c j j (Rw fun _=>(Fg q bu 0 j j j j)) j fun a c=>H q 1 c j fun a c=>Dr c j j (Bd q j z_131 j j) j fun a c=>H q 3 c j fun a c=>?_
    obtain ⟨db,dr,cs,cb,b6,bv⟩:=Sa (v.m (p.t a3)) (Int.natCast_nonneg _) (natIdx ag);obtain rfl:=rep_str.1 b6
    refine Dr c j j (I q cb j j j) j fun a c=>Dd hS c j j (Rw fun _=>(Fg q bv 0 j j j j)) j fun a c=>H q 2 c j fun a c=>Df j (W q 1 f c j j j j j j j j j j fun a w c f=>De (f.sw [] (by decide) j rf) fun hS=>H q 3 c j fun a c=>Dz (T (V (Xb (Xr (Xr (Xb (Xr (Xr ?_)))))))))
    cases d;obtain rfl:=Nr o;have d:=Le bb;cases d;refine U q c f (.cell 1 j j j j (.tmp j (.tmp j (.tmp j .nil)))) j ⟨_,_,_,j,f.nil,j,j⟩
  replace d:=ct a1 d;refine S (G (R q 2 c j fun a c=>?_));obtain ⟨d3,cx,d⟩:=bd d;refine L f c j (f_sidx q j j j cx) j fun a c=>?_
  obtain ⟨a8,cn,d⟩:=bd d;refine J cl_83 f c j j ((ref05_letter.ok k) cn f.pass0 ) j ?_;rintro a w _ ap _ ⟨rfl,rfl⟩ dm f c;refine R q 1 c j fun a c=>E (T (S ?_))
  obtain ⟨bk,m,b0⟩:=bd d;refine X c f (fun e L a' w'=>∃ s u,bk = .go s∧ap.le u∧Env a' 166 (sl e [0,1,4,8,10] [(9,i_ s)])∧Inv h g [] u L w') ?_ ?_
  ·
    refine O (Q c f (fun e L n' a' w'=>∃ al y,whileL (ref05_one.b1 k ah a8) n' al=some bk∧ap.le y∧Env a' 166 (sl e [0,1,4,8,10] [(9,i_ al)])∧Inv h g [] y L w') _ ⟨_,ap,m,rf,c.kp j,f⟩ ?_)
    rintro a6 a w ⟨al,y,m,bc,c,f⟩;rcases a6 with _ | a6
    · cases m
    obtain ⟨dw,d,m⟩:=Wh m;unfold ref05_one.b1 at d;refine S (S ?_);obtain ⟨bi,d,b2⟩:=bd d
    refine X c f (fun e L a' w'=>∃ aa,y.le aa∧Env a' 166 (sl e [0,1,4,8,9,10] [(53,.bool bi)])∧Inv h g [] aa L w') ?_ ?_;rotate_left
    · rintro a w ⟨aa,bf,c,f⟩;have d:=b2;refine T (Cc (b:=bi) c j (fun ax=>?_) (fun ax=>?_));rotate_left
      · replace d:=cf ax d;refine Ex (Xe (Xe (Xh (T ?_))));cases d;obtain rfl:=Wb m;exact ⟨_,aa,j,(bc.t bf),c.kp j,f⟩
      replace d:=ct ax d;refine K (T (O (G (R q 3 c j fun a c=>E (xB (T ?_))))));cases d;exact ⟨a6,Nat.lt_succ_self _,_,aa,m,(bc.t bf),c.kp j,f⟩
    refine G (R q 5 c j fun a c=>?_);rcases Bo (decide (al < (ah.size:Int))) with ab | ab;rotate_left
    · replace d:=cf ab d;have c:=c.tr (t:=39) j ab;refine R q 14 c j fun a c=>E (T ?_);cases d;exact ⟨y,rf,c.kp j,f⟩
    replace d:=ct ab d;have c:=c.tr (t:=39) j ab;refine R q 2 c j fun a c=>?_;obtain ⟨d1,cu,d⟩:=bd d;refine L f c j (f_sidx q j j j cu) j fun a c=>?_
    obtain ⟨c2,cj,d⟩:=bd d;refine J cl_84 f c j j ((ref05_digit.ok k) cj f.pass0 ) j ?_;rintro a w _ a9 _ ⟨rfl,rfl⟩ a2 f c;refine R q 1 c j fun a c=>?_
    rcases Bo c2 with ac | ac
    · replace d:=ct ac d;have c:=c.tr (t:=44) j ac;refine R q 9 c j fun a c=>E (T ?_);cases d;exact ⟨a9,a2,c.kp j,f⟩
    replace d:=cf ac d;have c:=c.tr (t:=44) j ac;refine R q 2 c j fun a c=>?_;rcases Bo a8 with ad | ad;rotate_left
    · replace d:=cf ad d;have c:=c.tr (t:=46) j ad;refine R q 7 c j fun a c=>E (T ?_);cases d;exact ⟨a9,a2,c.kp j,f⟩
    replace d:=ct ad d;have c:=c.tr (t:=46) j ad;refine R q 2 c j fun a c=>?_;obtain ⟨d2,cv,d⟩:=bd d;refine L f c j (f_sidx q j j j cv) j fun a c=>?_
    obtain ⟨dy,ck,d⟩:=bd d;refine J cl_83 f c j j ((ref05_letter.ok k) ck f.pass0 ) j ?_;rintro a w _ br _ ⟨rfl,rfl⟩ cg f c;refine R q 3 c j fun a c=>E (T ?_);cases d
    exact ⟨br,(a2.t cg),c.kp j,f⟩
  rintro a w ⟨s,u,rfl,dg,c,f⟩;have d:=Lg b0;refine T (S (G (R q 3 c j fun a c=>?_)));obtain ⟨bq,cq,d⟩:=bd d
  refine L f c j (f_scut q j j j j cq) j fun a c=>R q 1 c j fun a c=>L f c j (Bd q j z_131 j j) j fun a c=>A f c j z_131 j j fun a w ba c f=>W q 0 f c j j j j j j j j j j fun a w c f=>E (T (S (S (G (R q 1 c j fun a c=>E (T (Cc (b:=a8) c j (fun aw=>?_) (fun aw=>?_))))))))
  · replace d:=ct aw d;refine S (S (G (R q 4 c j fun a c=>E (T (Cc (b:=decide ((30:Int) < (w64 (s - x)))) c j (fun ar=>?_) (fun ar=>?_))))))
    · replace d:=ct ar d
      refine S (G (L f c j (B q 1 j j j j) j fun a c=>R q 1 c j fun a c=>W q 2 f c j j j j j j j j j j fun a w c f=>R q 3 c j fun a c=>E (T (V (Xr (Xr (Xr ?_)))))))
      cases d;refine U q c f (.cell 2 j j j j (.tmp j (.tmp j (.tmp j .nil)))) j ⟨_,_,_,j,f.nil,j,j⟩
    replace d:=cf ar d
    refine K (T (S (G (L f c j (B q 0 j j j j) j fun a c=>R q 1 c j fun a c=>W q 2 f c j j j j j j j j j j fun a w c f=>R q 3 c j fun a c=>E (T (V (Xr (Xr ?_))))))))
    cases d;refine U q c f (.cell 2 j j j j (.tmp j (.tmp j (.tmp j .nil)))) j ⟨_,_,_,j,f.nil,j,j⟩
  replace d:=cf aw d;refine K (T (S (S (G (R q 4 c j fun a c=>E (T (Cc (b:=decide ((18:Int) < (w64 (s - x)))) c j (fun av=>?_) (fun av=>?_))))))))
  · replace d:=ct av d
    refine S (G (L f c j (B q 1 j j j j) j fun a c=>R q 1 c j fun a c=>W q 2 f c j j j j j j j j j j fun a w c f=>R q 3 c j fun a c=>E (T (V (Xr (Xr ?_))))))
    cases d;refine U q c f (.cell 2 j j j j (.tmp j (.tmp j (.tmp j .nil)))) j ⟨_,_,_,j,f.nil,j,j⟩
  replace d:=cf av d
  refine K (T (S (G (R q 1 c j fun a c=>W q 0 f c j j j j j j j j j j fun a w c f=>E (T (S (S (G (R q 2 c j fun a c=>E (T ?_))))))))))
  obtain ⟨bl,n,b1⟩:=bd d
  refine X c f (fun e L a' w'=>∃ a7 am,bl = .go a7∧u.le am∧Env a' 166 (sl e [4,9,11] [])∧Inv h g [] am [.blk ba [i_ (2:Int),.string bq,i_ a7.2,i_ x] 131,nt L 2] w') ?_ ?_
  rotate_left
  · rintro a w ⟨a7,am,rfl,dh,c,f⟩;have d:=Lg b1
    refine T (S (G (L f c j (B q 0 j j j j) j fun a c=>R q 1 c j fun a c=>W q 1 f c j j j j j j j j j j fun a w c f=>R q 3 c j fun a c=>E (T (V (Xr ?_))))))
    cases d;refine U q c f (.cell 1 j j j j (.tmp j (.tmp j (.tmp j .nil)))) j ⟨_,_,_,j,f.nil,j,j⟩
  
  refine O (Q c f (fun e L n' a' w'=>∃ ai z,whileL (ref05_one.b0 k s ah) n' ai=some bl∧u.le z∧Env a' 166 (sl e [0,4,9,11] [(12,i_ ai.1)])∧Inv h g [] z [.blk ba [i_ (2:Int),.string bq,i_ ai.2,i_ x] 131,nt L 2] w') _ ⟨_,u,n,rf,c.kp j,(f.pick [0,2] (by decide) j)⟩ ?_)
  rintro a5 a w ⟨ai,z,n,be,c,f⟩;rcases a5 with _ | a5
  · cases n
  obtain ⟨dv,d,n⟩:=Wh n;unfold ref05_one.b0 at d
  refine S (S (G (R q 3 c j fun a c=>E (T (Cc (b:=decide (ai.1 < s)) c j (fun au=>?_) (fun au=>?_))))));rotate_left
  · replace d:=cf au d;refine Ex (Xe (Xe (Xh (T ?_))));cases d;obtain rfl:=Wb n;exact ⟨_,z,j,be,c.kp j,f⟩
  replace d:=ct au d
  refine K (T (S (O (Mx [0] [10] (.step 0 0 (.step 1 1 (.step 2 0 (.step 3 0 (.step 4 0 (.step 5 0 (.step 6 0 (.step 7 0 (.step 8 0 (.step 9 0 (.step 10 3 .nil))))))))))) mixed (by kernel_rfl) f (by decide) j fun w f hS=>H q 1 c j fun a c=>Dd hS c j j (Rw fun _=>(B q 0 j j j j)) j fun a c=>H q 3 c j fun a c=>?_))))
  obtain ⟨d0,cr,d⟩:=bd d
  refine Dr c j j (f_sidx q j j j cr) j fun a c=>H q 4 c j fun a c=>Dl j (W q 0 f c j j j j j j j j j j fun a w c f=>Dn (Dz (xB (T (G (R q 3 c j fun a c=>E (T ?_)))))))
  cases d;exact ⟨a5,Nat.lt_succ_self _,_,z,n,be,c.kp j,f⟩

theorem cl_60:Callable Tryz.prog 60:=⟨_,Tryz.func60,by kernel_rfl,by kernel_rfl⟩

def ref05_Scan.C (s:ByteArray→Option ((List TToken) × Int × Int)):Prop:=∀ {f r},s f=some r→∀ {b c },Inv b c [] c [] b→Calls Tryz.prog 60 #[.string f] b (Ret b c [] fun G' L' v=>L'=[]∧∃ d e,v = .tuple ⟨[.slice d r.1.length e,i_ r.2.1,i_ r.2.2]⟩∧Sl G' d e 4 (r.1.map TToken.d))

theorem ref05_Scan.ok (k:Nat):ref05_Scan.C (ref05_Scan k):=by
  intro m r d ab l  g
  unfold ref05_Scan at d
  refine Ci 86 Tryz.func60 j j j fun a c=>?_
  
  refine S (G (R q 3 c j fun a c=>E (T (S (S (G (R q 3 c j fun a c=>E (T (Cc (b:=decide ((20000:Int) < (m.size:Int))) c j (fun a2=>?_) (fun a2=>?_))))))))))
  · replace d:=ct a2 d;refine S (G (R q 3 c j fun a c=>E (T (V (Xr ?_)))));cases d
    refine N (v:=_) c j ⟨_,_,_,j,g.nil,j,none,0,j,(Sn _ _ _ _ (Nat.zero_le _))⟩
  replace d:=cf a2 d;refine K (T (S (G (R q 1 c j fun a c=>E (T (S (G (R q 1 c j fun a c=>E (T (S ?_))))))))));have g:=g.nilrow 131 4
  have bn:RL l 4 (([]:List TToken).map TToken.d) []:=Rn;obtain ⟨bf,h,au⟩:=bd d
  refine X c g (fun e L a' w'=>∃ n ad ap aq ar,bf = .go n∧l.le ad∧Env a' 86 (sl e [0] [(5,.slice ap n.1.length aq)])∧Inv ab l [] ad [.row (.slice ap n.1.length aq) 131 4 n.1.length ar] w'∧RL ad 4 (n.1.map TToken.d) ar) ?_ ?_
  rotate_left
  · rintro a w ⟨n,ad,ap,aq,ar,rfl,b8,c,g,bo⟩;have d:=Lg au
    refine T (S (S (G (R q 3 c j fun a c=>E (T (Cc (b:=decide ((6000:Int)≤(n.1.length:Int))) c j (fun av=>?_) (fun av=>?_)))))))
    · replace d:=ct av d;refine S (G (R q 5 c j fun a c=>E (T (V (Xr ?_)))));cases d
      refine N (v:=_) c j ⟨_,_,_,j,g.nil,j,none,0,j,(Sn _ _ _ _ (Nat.zero_le _))⟩
    replace d:=cf av d
    refine K (T (S (G (R q 3 c j fun a c=>L g c j (Bd q j z_131 j j) j fun a c=>Bs ai_103 g c j j j j j fun a w b5 c g=>?_))))
    have a6:RL ad 4 ([(TToken.mk (0:Int) (⟨#[]⟩:ByteArray) (0:Int) (m.size:Int))].map TToken.d) _:=(Rc (TToken.inv.2 j) j Rn);obtain ⟨_,bt,d⟩:=bd d
    refine Ao (f:=TToken.d) (xs:=n.1) (ys:=[(TToken.mk (0:Int) (⟨#[]⟩:ByteArray) (0:Int) (m.size:Int))]) ai_103 1 0 g c j j j a6 j j (Ll bt) j fun a w bh bj c g=>?_
    have bp:=Ra bo a6;refine R q 3 c j fun a c=>E (T ?_)
    obtain ⟨b4,b9,g,bl⟩:=(g.front 1).giveR (xs:=(n.1 ++ [(TToken.mk (0:Int) (⟨#[]⟩:ByteArray) (0:Int) (m.size:Int))]).map TToken.d) (by simp) bp;refine V ?_;cases d
    refine N (v:=_) c j ⟨_,_,_,j,g.nil,j,bh,bj,j,bl⟩
  
  refine O (Q c g (fun e L n' a' w'=>∃ i ac u z o,whileL (ref05_Scan.b0 k m) n' i=some bf∧l.le ac∧Env a' 86 (sl e [0] [(5,.slice u i.1.length z),(6,i_ i.2)])∧Inv ab l [] ac [.row (.slice u i.1.length z) 131 4 i.1.length o] w'∧RL ac 4 (i.1.map TToken.d) o) _ ⟨_,l,none,0,[],h,rf,c.kp j,g,bn⟩ ?_)
  rintro aj a w ⟨i,ac,u,z,o,h,am,c,g,al⟩;rcases aj with _ | aj
  · cases h
  obtain ⟨ca,d,h⟩:=Wh h;unfold ref05_Scan.b0 at d
  refine S (S (G (R q 4 c j fun a c=>E (T (Cc (b:=decide (i.2 < (m.size:Int))) c j (fun a1=>?_) (fun a1=>?_))))));rotate_left
  · replace d:=cf a1 d;refine Ex (Xe (Xe (Xh (T ?_))));cases d;obtain rfl:=Wb h;exact ⟨_,ac,u,z,o,j,am,c.kp j,g,al⟩
  replace d:=ct a1 d;refine K (T (O (S (S (G (R q 2 c j fun a c=>?_))))));obtain ⟨cc,bx,d⟩:=bd d
  refine L g c j (f_sidx q j j j bx) j fun a c=>?_;obtain ⟨b2,bv,d⟩:=bd d;refine J cl_77 g c j j ((ref05_blank.ok k) bv g.pass0 ) j ?_
  rintro a w _ ae _ ⟨rfl,rfl⟩ aa g c;refine E (T (Cc (b:=b2) c j (fun a0=>?_) (fun a0=>?_)))
  · replace d:=ct a0 d;refine S (G (R q 3 c j fun a c=>E (T (Ex (Xe (Xh (T ?_)))))));cases d
    exact ⟨aj,Nat.lt_succ_self _,_,ae,u,z,o,h,(am.t aa),c.kp j,g,(al.m aa)⟩
  replace d:=cf a0 d;refine K (T (S (S ?_)));obtain ⟨bc,d,bq⟩:=bd d
  refine X c g (fun e L a' w'=>∃ x,ae.le x∧Env a' 86 (sl e [0,5,6] [(41,.bool bc)])∧Inv ab l [] x L w') ?_ ?_
  · refine G (R q 2 c j fun a c=>?_);obtain ⟨b3,b0,d⟩:=bd d;refine L g c j (f_sidx q j j j b0) j fun a c=>R q 2 c j fun a c=>?_
    rcases Bo (decide (b3=(45:Int))) with ah | ah;rotate_left
    · replace d:=cf ah d;have c:=c.tr (t:=28) j ah;refine R q 13 c j fun a c=>E (T ?_);cases d;exact ⟨ae,rf,c.kp j,g⟩
    replace d:=ct ah d;have c:=c.tr (t:=28) j ah;refine R q 7 c j fun a c=>?_;rcases Bo (decide ((w64 (i.2 + (1:Int))) < (m.size:Int))) with ai | ai;rotate_left
    · replace d:=cf ai d;have c:=c.tr (t:=35) j ai;refine R q 6 c j fun a c=>E (T ?_);cases d;exact ⟨ae,rf,c.kp j,g⟩
    replace d:=ct ai d;have c:=c.tr (t:=35) j ai;refine R q 3 c j fun a c=>?_;obtain ⟨ce,b1,d⟩:=bd d
    refine L g c j (f_sidx q j j j b1) j fun a c=>R q 2 c j fun a c=>E (T ?_);cases d;exact ⟨ae,rf,c.kp j,g⟩
  rintro a w ⟨x,an,c,g⟩;have d:=bq;refine T (Cc (b:=bc) c j (fun az=>?_) (fun az=>?_))
  · replace d:=ct az d;refine S ?_;obtain ⟨bg,p,bm⟩:=bd d
    refine X c g (fun e L a' w'=>∃ a4 ak,bg = .go a4∧x.le ak∧Env a' 86 (sl e [0,5] [(6,i_ a4)])∧Inv ab l [] ak L w') ?_ ?_;rotate_left
    · rintro a w ⟨a4,ak,rfl,a9,c,g⟩;have d:=Lg bm;refine T (Ex (Xe (Xh (T ?_))));cases d
      exact ⟨aj,Nat.lt_succ_self _,_,ak,u,z,o,h,(((am.t aa).t an).t a9),c.kp j,g,(al.m ((aa.t an).t a9))⟩
    
    refine O (Q c g (fun e L n' a' w'=>∃ ao y,whileL (ref05_Scan.b1 k m) n' ao=some bg∧x.le y∧Env a' 86 (sl e [0,5] [(6,i_ ao)])∧Inv ab l [] y L w') _ ⟨_,x,p,rf,c.kp j,g⟩ ?_)
    rintro a3 a w ⟨ao,y,p,a8,c,g⟩;rcases a3 with _ | a3
    · cases p
    obtain ⟨cb,d,p⟩:=Wh p;unfold ref05_Scan.b1 at d;refine S (S ?_);obtain ⟨be,d,br⟩:=bd d
    refine X c g (fun e L a' w'=>∃ af,y.le af∧Env a' 86 (sl e [0,5,6] [(51,.bool be)])∧Inv ab l [] af L w') ?_ ?_;rotate_left
    · rintro a w ⟨af,ba,c,g⟩;have d:=br;refine T (Cc (b:=be) c j (fun aw=>?_) (fun aw=>?_));rotate_left
      · replace d:=cf aw d;refine Ex (Xe (Xe (Xh (T ?_))));cases d;obtain rfl:=Wb p;exact ⟨_,af,j,(a8.t ba),c.kp j,g⟩
      replace d:=ct aw d;refine K (T (O (G (R q 3 c j fun a c=>E (xB (T ?_))))));cases d;exact ⟨a3,Nat.lt_succ_self _,_,af,p,(a8.t ba),c.kp j,g⟩
    refine G (R q 5 c j fun a c=>?_);rcases Bo (decide (ao < (m.size:Int))) with ag | ag;rotate_left
    · replace d:=cf ag d;have c:=c.tr (t:=46) j ag;refine R q 5 c j fun a c=>E (T ?_);cases d;exact ⟨y,rf,c.kp j,g⟩
    replace d:=ct ag d;have c:=c.tr (t:=46) j ag;refine R q 2 c j fun a c=>?_;obtain ⟨cd,bz,d⟩:=bd d
    refine L g c j (f_sidx q j j j bz) j fun a c=>R q 2 c j fun a c=>E (T ?_);cases d;exact ⟨y,rf,c.kp j,g⟩
  replace d:=cf az d;refine K (T (S (G (R q 2 c j fun a c=>?_))));obtain ⟨s,bw,d⟩:=bd d;refine J cl_78 g c j j ((ref05_one.ok k) bw g.pass0 ) j ?_
  rintro a w _ a5 _ ⟨rfl,rfl⟩ bb g c
  refine R q 5 c j fun a c=>A g c j z_131 j j fun a w b6 c g=>W q 0 g c j j j j j j j j j j fun a w c g=>R q 3 c j fun a c=>E (T (S (S (G (R q 2 c j fun a c=>E (T (Cc (b:=!decide (s.2.2.2=(0:Int))) c j (fun ay=>?_) (fun ay=>?_))))))))
  · replace d:=ct ay d;refine S (G (R q 5 c j fun a c=>E (T (V (Xr (Xb (Xr (Xb (Xr (Xr ?_))))))))));cases d;obtain rfl:=Wr h;have d:=Le au;cases d
    refine N (v:=_) c j ⟨_,_,_,j,g.nil,j,none,0,j,(Sn _ _ _ _ (Nat.zero_le _))⟩
  replace d:=cf ay d;refine K (T (S (S (G (R q 3 c j fun a c=>E (T (Cc (b:=decide ((6000:Int)≤(i.1.length:Int))) c j (fun ax=>?_) (fun ax=>?_))))))))
  · replace d:=ct ax d;refine S (G (R q 4 c j fun a c=>E (T (V (Xr (Xb (Xr (Xb (Xr (Xr ?_))))))))));cases d;obtain rfl:=Wr h;have d:=Le au;cases d
    refine N (v:=_) c j ⟨_,_,_,j,g.nil,j,none,0,j,(Sn _ _ _ _ (Nat.zero_le _))⟩
  replace d:=cf ax d
  refine K (T (S (G (R q 1 c j fun a c=>L g c j (B q 0 j j j j) j fun a c=>Bs ai_103 g c j j j j j fun a w b7 c g=>?_))))
  have a7:RL a5 4 ([s.1].map TToken.d) _:=(Rc (TToken.inv.2 j) j Rn);obtain ⟨_,bu,d⟩:=bd d
  refine Ao (f:=TToken.d) (xs:=i.1) (ys:=[s.1]) ai_103 2 0 g c j j j a7 j j (Ll bu) j fun a w bi bk c g=>?_
  have bs:=Ra (al.m ((aa.t an).t bb)) a7;refine R q 1 c j fun a c=>E (T (G (R q 2 c j fun a c=>E (xB (T ?_)))));cases d
  exact ⟨aj,Nat.lt_succ_self _,_,a5,bi,bk,(o ++ [i_ s.1.Kind,.string s.1.Text,i_ s.1.N,i_ s.1.At]),h,(((am.t aa).t an).t bb),c.kp j,(g.dropN 2 j),bs⟩

theorem cl_48:Callable Tryz.prog 48:=⟨_,Tryz.func48,by kernel_rfl,by kernel_rfl⟩

def ref06_New.C (s:ByteArray→Int→Option Tref06_P):Prop:=∀ {e f r},s e f=some r→∀ {b c },Inv b c [] c [] b→Calls Tryz.prog 48 #[.string e,i_ f] b (Ret b c [] fun G' L' v=>∃ d A0_0_ c0_0_,L'=[.blk d [.slice A0_0_ r.T.length c0_0_,i_ r.I,i_ r.Deep,i_ r.At,i_ r.E] 105]∧v=(P d)∧Sl G' A0_0_ c0_0_ 4 (r.T.map TToken.d))

theorem ref06_New.ok (k:Nat):ref06_New.C (ref06_New k):=by
  intro o p r d s l  c
  unfold ref06_New at d
  refine Ci 20 Tryz.func48 j j j fun a b=>?_
  refine S (G (R q 1 b j fun a b=>E (T (S (G (R q 1 b j fun a b=>?_))))));obtain ⟨t,i,d⟩:=bd d
  refine J cl_60 c b j j ((ref05_Scan.ok k) i c.pass0 ) j ?_;rintro a w _ m _ ⟨rfl,e,g,rfl,h⟩ n c b
  refine R q 7 b j fun a b=>E (T (S (G (R q 4 b j fun a b=>L c b j (Bd q j z_105 j j) j fun a b=>s_box c b j j j j fun a w f b c=>R q 1 b j fun a b=>E (T (V ?_))))))
  cases d;refine N (v:=_) b j ⟨_,_,_,j,c,f,e,g,j,j,h⟩

theorem cl_65:Callable Tryz.prog 65:=⟨_,Tryz.func65,by kernel_rfl,by kernel_rfl⟩

def ref06_P_is.C (s:(Option Tref06_P)→ByteArray→Option Bool):Prop:=∀ {e f r},s e f=some r→∀ {c b d},Inv c b [] b [] c→(Pt b d 105 Tref06_P.d e)→Calls Tryz.prog 65 #[.pointer d,.string f] c (Ret c b [] fun G' L' v=>L'=[]∧v = .bool r)

theorem ref06_P_is.ok (k:Nat):ref06_P_is.C (ref06_P_is k):=by
  intro a3 a4 r c am h ao d u
  unfold ref06_P_is at c
  refine Ci 53 Tryz.func65 j j j fun a b=>?_
  refine S (G (R q 1 b j fun a b=>E (T (S ?_))));obtain ⟨al,c,ab⟩:=bd c
  refine X b d (fun e L a' w'=>∃ o,h.le o∧Env a' 53 [(4,.bool al)]∧Inv am h [] o L w') ?_ ?_;rotate_left
  · rintro a w ⟨o,ay,b,d⟩;have c:=ab;refine T (V ?_);cases c;refine N (v:=_) b j ⟨_,_,_,j,d.nil,j,j⟩
  refine Cd mixed (by kernel_rfl) d (Y q 1 b j fun a b=>?_);rcases (u).cases with ⟨p,rfl⟩ | ⟨an,aq,cs,p,rfl,ac,f⟩
  · cases op_n p c
  replace c:=op_s p c;obtain ⟨ap,ax,rfl,n⟩:=Tref06_P.inv.1 ac;refine Y q 2 b j fun a b=>Z b j (Fg q f 4 j j j j) j fun a b=>Y q 2 b j fun a b=>?_
  rcases Bo (decide (an.E=(0:Int))) with i | i;rotate_left
  · replace c:=cf i c;have b:=b.tr (t:=10) j i;refine Y q 43 b j fun a b=>Qe ?_;intro w d;refine T ?_;cases c;exact ⟨h,rf,b.kp j,d⟩
  replace c:=ct i c;have b:=b.tr (t:=10) j i
  refine Y q 3 b j fun a b=>Z b j (Fg q f 0 j j j j) j fun a b=>Y q 3 b j fun a b=>Z b j (Fg q f 1 j j j j) j fun a b=>?_
  obtain ⟨s,g,c⟩:=bd c;obtain ⟨ar,az,cs,ah,ad,x⟩:=Sa n (Go g).1 (Go g).2;obtain rfl:=TToken.inv.1 ad
  refine Z b j (I q ah j j j) j fun a b=>Y q 1 b j fun a b=>Z b j (Fg q x 0 j j j j) j fun a b=>Y q 2 b j fun a b=>?_
  rcases Bo (decide (s.Kind=(1:Int))) with l | l
  · replace c:=ct l c;have b:=b.tr (t:=23) j l
    refine Y q 18 b j fun a b=>Z b j (Fg q f 0 j j j j) j fun a b=>Y q 3 b j fun a b=>Z b j (Fg q f 1 j j j j) j fun a b=>?_
    obtain ⟨au,a0,cs,ai,ae,y⟩:=Sa n (Go g).1 (Go g).2;obtain rfl:=TToken.inv.1 ae
    refine Z b j (I q ai j j j) j fun a b=>Y q 1 b j fun a b=>Z b j (Fg q y 1 j j j j) j fun a b=>Y q 4 b j fun a b=>Qe ?_;intro w d
    refine T ?_;cases c;exact ⟨h,rf,b.kp j,d⟩
  replace c:=cf l c;have b:=b.tr (t:=23) j l
  refine Y q 3 b j fun a b=>Z b j (Fg q f 0 j j j j) j fun a b=>Y q 3 b j fun a b=>Z b j (Fg q f 1 j j j j) j fun a b=>?_
  obtain ⟨av,a1,cs,aj,af,z⟩:=Sa n (Go g).1 (Go g).2;obtain rfl:=TToken.inv.1 af
  refine Z b j (I q aj j j j) j fun a b=>Y q 1 b j fun a b=>Z b j (Fg q z 0 j j j j) j fun a b=>Y q 4 b j fun a b=>?_
  rcases Bo (decide (s.Kind=(4:Int))) with m | m;rotate_left
  · replace c:=cf m c;have b:=b.tr (t:=38) j m;refine Y q 15 b j fun a b=>Qe ?_;intro w d;refine T ?_;cases c;exact ⟨h,rf,b.kp j,d⟩
  replace c:=ct m c;have b:=b.tr (t:=38) j m
  refine Y q 3 b j fun a b=>Z b j (Fg q f 0 j j j j) j fun a b=>Y q 3 b j fun a b=>Z b j (Fg q f 1 j j j j) j fun a b=>?_
  obtain ⟨aw,a2,cs,ak,ag,aa⟩:=Sa n (Go g).1 (Go g).2;obtain rfl:=TToken.inv.1 ag
  refine Z b j (I q ak j j j) j fun a b=>Y q 1 b j fun a b=>Z b j (Fg q aa 1 j j j j) j fun a b=>Y q 4 b j fun a b=>Qe ?_;intro w d
  refine T ?_;cases c;exact ⟨h,rf,b.kp j,d⟩

theorem cl_61:Callable Tryz.prog 61:=⟨_,Tryz.func61,by kernel_rfl,by kernel_rfl⟩

def ref06_P_take.C (s:Tref06_P→ByteArray→Option (Bool × Tref06_P)):Prop:=∀ {b i r},s b i=some r→∀ {d c h f e g},Inv d c h c [.blk f [.slice e b.T.length g,i_ b.I,i_ b.Deep,i_ b.At,i_ b.E] 105] d→(Sl c e g 4 (b.T.map TToken.d))→Calls Tryz.prog 61 #[(P f),.string i] d (Ret d c h fun G' L' v=>L'=[.blk f [.slice e b.T.length g,i_ r.2.I,i_ b.Deep,i_ b.At,i_ b.E] 105]∧v = .bool r.1)

theorem ref06_P_take.ok (k:Nat):ref06_P_take.C (ref06_P_take k):=by
  intro y ab r e ac aa z m i n d p
  unfold ref06_P_take at e
  refine Ci 16 Tryz.func61 j j j fun a c=>?_
  refine S (G (R q 1 c j fun a c=>E (T (S (S (G (R q 2 c j fun a c=>?_)))))));obtain ⟨g,x,e⟩:=bd e
  refine Cl (S:=fun _ L' u=>L'=[]∧u = .bool g) cl_65 d c j j (by obtain ⟨l,t,d,s⟩:=(d.front 0).giveB;have o:Pt l (p_ m) 105 Tref06_P.d (some y):=Pm (Tref06_P.inv.2 ⟨i,n,j,(p.m t)⟩) s;exact ⟨_,(ref06_P_is.ok k) x d.pass0 o⟩) (fun _ _ _ h=>h.2) j ?_
  intro a w d c;refine R q 1 c j fun a c=>E (T (Cc (b:=!g) c j (fun f=>?_) (fun f=>?_)))
  · replace e:=ct f e;refine S (G (R q 1 c j fun a c=>E (T (V (Xr ?_)))));cases e;refine N (v:=_) c j ⟨_,_,_,j,d,j,j⟩
  replace e:=cf f e
  refine K (T (S (G (R q 3 c j fun a c=>L d c j (B q 0 j j j j) j fun a c=>R q 3 c j fun a c=>W q 0 d c j j j j j j j j j j fun a w c d=>E (T (S (G (R q 1 c j fun a c=>E (T (V ?_))))))))))
  cases e;refine N (v:=_) c j ⟨_,_,_,j,d,j,j⟩

theorem cl_68:Callable Tryz.prog 68:=⟨_,Tryz.func68,by kernel_rfl,by kernel_rfl⟩

def ref06_P_bad.C (s:Tref06_P→Int→Option Tref06_P):Prop:=∀ {b i r},s b i=some r→∀ {d c h f e g},Inv d c h c [.blk f [.slice e b.T.length g,i_ b.I,i_ b.Deep,i_ b.At,i_ b.E] 105] d→(Sl c e g 4 (b.T.map TToken.d))→Calls Tryz.prog 68 #[(P f),i_ i] d (Ret d c h fun G' L' v=>L'=[.blk f [.slice e b.T.length g,i_ b.I,i_ b.Deep,i_ r.At,i_ r.E] 105]∧v = .tuple ⟨[]⟩)

theorem ref06_P_bad.ok (k:Nat):ref06_P_bad.C (ref06_P_bad k):=by
  intro n z r d aa s p t o x e h
  unfold ref06_P_bad at d
  refine Ci 27 Tryz.func68 j j j fun a c=>?_
  
  refine S (G (R q 3 c j fun a c=>L e c j (B q 0 j j j j) j fun a c=>R q 1 c j fun a c=>E (T (Cc (b:=decide (n.E=(0:Int))) c j (fun f=>?_) (fun f=>?_)))))
  rotate_left
  · replace d:=cf f d;refine K ?_;cases d;refine r_end (v:=_) c j ⟨_,_,_,j,e,j,j⟩
  replace d:=ct f d
  refine S (G (R q 4 c j fun a c=>W q 0 e c j j j j j j j j j j fun a w c e=>E (T (Mx [0] [14] (.step 0 0 (.step 1 0 (.step 2 0 (.step 3 0 (.step 4 1 (.step 5 0 (.step 6 0 (.step 7 0 (.step 8 1 (.step 9 0 (.step 10 0 (.step 11 1 (.step 12 0 (.step 13 0 (.step 14 3 .nil))))))))))))))) mixed (by kernel_rfl) e (by decide) j fun w e hS=>H q 4 c j fun a c=>Dd hS c j j (Rw fun _=>(B q 0 j j j j)) j fun a c=>H q 3 c j fun a c=>Dd hS c j j (Rw fun _=>(B q 0 j j j j)) j fun a c=>?_))))
  obtain ⟨ab,g,d⟩:=bd d;obtain ⟨u,y,cs,m,l,i⟩:=Sa h (Go g).1 (Go g).2;obtain rfl:=TToken.inv.1 l
  refine Dr c j j (I q m j j j) j fun a c=>H q 1 c j fun a c=>Dd hS c j j (Rw fun _=>(Fg q i 3 j j j j)) j fun a c=>H q 2 c j fun a c=>Dl j (W q 0 e c j j j j j j j j j j fun a w c e=>Dn (Dz ?_))
  cases d;refine r_end (v:=_) c j ⟨_,_,_,j,e,j,j⟩

theorem cl_87:Callable Tryz.prog 87:=⟨_,Tryz.func87,by kernel_rfl,by kernel_rfl⟩

def ref05_Words.C (s:Option (List ByteArray)):Prop:=∀ { r},s =some r→∀ {b c },Inv b c [] c [] b→Calls Tryz.prog 87 #[] b (Ret b c [] fun G' L' v=>L'=[]∧∃ d e,v = .slice d r.length e∧Sl G' d e 1 (r.map D.str))

theorem ref05_Words.ok (k:Nat):ref05_Words.C (ref05_Words k):=by
  intro  r d m e  c
  unfold ref05_Words at d
  refine Ci 2 Tryz.func87 j j j fun a b=>?_
  refine S (G (R q 1 b j fun a b=>E (T (S (G (Bs ai_22 c b j j j j j fun a w f b c=>?_))))))
  have h:RL e 1 ([(⟨#[97,108,108]⟩:ByteArray),(⟨#[97,110,100]⟩:ByteArray),(⟨#[97,115]⟩:ByteArray),(⟨#[98,101,103,105,110]⟩:ByteArray),(⟨#[98,101,103,105,110,115]⟩:ByteArray),(⟨#[98,101,116,119,101,101,110]⟩:ByteArray),(⟨#[98,121]⟩:ByteArray),(⟨#[99,97,108,108]⟩:ByteArray),(⟨#[99,97,115,101]⟩:ByteArray),(⟨#[99,97,116,99,104]⟩:ByteArray),(⟨#[99,111,109,109,105,116]⟩:ByteArray),(⟨#[100,101,108,101,116,101]⟩:ByteArray),(⟨#[100,101,115,99]⟩:ByteArray),(⟨#[100,105,115,116,105,110,99,116]⟩:ByteArray),(⟨#[101,108,115,101]⟩:ByteArray),(⟨#[101,110,100]⟩:ByteArray),(⟨#[101,120,99,101,112,116]⟩:ByteArray),(⟨#[101,120,105,115,116,115]⟩:ByteArray),(⟨#[102,111,114]⟩:ByteArray),(⟨#[102,114,111,109]⟩:ByteArray),(⟨#[103,114,111,117,112]⟩:ByteArray),(⟨#[104,97,118,105,110,103]⟩:ByteArray),(⟨#[104,105,100,101]⟩:ByteArray),(⟨#[105,102]⟩:ByteArray),(⟨#[105,110]⟩:ByteArray),(⟨#[105,110,112,117,116]⟩:ByteArray),(⟨#[105,110,115,101,114,116]⟩:ByteArray),(⟨#[105,110,116]⟩:ByteArray),(⟨#[105,110,116,111]⟩:ByteArray),(⟨#[105,110,116,101,114,115,101,99,116]⟩:ByteArray),(⟨#[105,115]⟩:ByteArray),(⟨#[106,111,105,110]⟩:ByteArray),(⟨#[107,101,121]⟩:ByteArray),(⟨#[108,101,102,116]⟩:ByteArray),(⟨#[108,101,118,101,108]⟩:ByteArray),(⟨#[108,101,118,101,108,115]⟩:ByteArray),(⟨#[108,105,109,105,116]⟩:ByteArray),(⟨#[110,111,116]⟩:ByteArray),(⟨#[110,117,108,108]⟩:ByteArray),(⟨#[111,110]⟩:ByteArray),(⟨#[111,114]⟩:ByteArray),(⟨#[111,114,100,101,114]⟩:ByteArray),(⟨#[112,114,105,110,99,105,112,97,108]⟩:ByteArray),(⟨#[112,114,105,110,116]⟩:ByteArray),(⟨#[112,114,111,99]⟩:ByteArray),(⟨#[114,97,105,115,101]⟩:ByteArray),(⟨#[114,111,108,108,98,97,99,107]⟩:ByteArray),(⟨#[114,111,119,115]⟩:ByteArray),(⟨#[115,101,108,101,99,116]⟩:ByteArray),(⟨#[115,101,116]⟩:ByteArray),(⟨#[116,97,98,108,101]⟩:ByteArray),(⟨#[116,101,120,116]⟩:ByteArray),(⟨#[116,104,101,110]⟩:ByteArray),(⟨#[116,114,117,101]⟩:ByteArray),(⟨#[116,114,121]⟩:ByteArray),(⟨#[102,97,108,115,101]⟩:ByteArray),(⟨#[98,111,111,108]⟩:ByteArray),(⟨#[117,110,105,111,110]⟩:ByteArray),(⟨#[117,112,100,97,116,101]⟩:ByteArray),(⟨#[118,97,108,117,101,115]⟩:ByteArray),(⟨#[118,97,114]⟩:ByteArray),(⟨#[118,105,115,105,98,108,101]⟩:ByteArray),(⟨#[119,104,101,110]⟩:ByteArray),(⟨#[119,104,101,114,101]⟩:ByteArray),(⟨#[119,104,105,108,101]⟩:ByteArray),(⟨#[99,104,97,110,110,101,108]⟩:ByteArray),(⟨#[115,107,105,112]⟩:ByteArray)].map D.str) _:=(Rc (rep_str.2 j) j (Rc (rep_str.2 j) j (Rc (rep_str.2 j) j (Rc (rep_str.2 j) j (Rc (rep_str.2 j) j (Rc (rep_str.2 j) j (Rc (rep_str.2 j) j (Rc (rep_str.2 j) j (Rc (rep_str.2 j) j (Rc (rep_str.2 j) j (Rc (rep_str.2 j) j (Rc (rep_str.2 j) j (Rc (rep_str.2 j) j (Rc (rep_str.2 j) j (Rc (rep_str.2 j) j (Rc (rep_str.2 j) j (Rc (rep_str.2 j) j (Rc (rep_str.2 j) j (Rc (rep_str.2 j) j (Rc (rep_str.2 j) j (Rc (rep_str.2 j) j (Rc (rep_str.2 j) j (Rc (rep_str.2 j) j (Rc (rep_str.2 j) j (Rc (rep_str.2 j) j (Rc (rep_str.2 j) j (Rc (rep_str.2 j) j (Rc (rep_str.2 j) j (Rc (rep_str.2 j) j (Rc (rep_str.2 j) j (Rc (rep_str.2 j) j (Rc (rep_str.2 j) j (Rc (rep_str.2 j) j (Rc (rep_str.2 j) j (Rc (rep_str.2 j) j (Rc (rep_str.2 j) j (Rc (rep_str.2 j) j (Rc (rep_str.2 j) j (Rc (rep_str.2 j) j (Rc (rep_str.2 j) j (Rc (rep_str.2 j) j (Rc (rep_str.2 j) j (Rc (rep_str.2 j) j (Rc (rep_str.2 j) j (Rc (rep_str.2 j) j (Rc (rep_str.2 j) j (Rc (rep_str.2 j) j (Rc (rep_str.2 j) j (Rc (rep_str.2 j) j (Rc (rep_str.2 j) j (Rc (rep_str.2 j) j (Rc (rep_str.2 j) j (Rc (rep_str.2 j) j (Rc (rep_str.2 j) j (Rc (rep_str.2 j) j (Rc (rep_str.2 j) j (Rc (rep_str.2 j) j (Rc (rep_str.2 j) j (Rc (rep_str.2 j) j (Rc (rep_str.2 j) j (Rc (rep_str.2 j) j (Rc (rep_str.2 j) j (Rc (rep_str.2 j) j (Rc (rep_str.2 j) j (Rc (rep_str.2 j) j (Rc (rep_str.2 j) j (Rc (rep_str.2 j) j Rn)))))))))))))))))))))))))))))))))))))))))))))))))))))))))))))))))))
  refine R q 1 b j fun a b=>E (T ?_)
  obtain ⟨i,l,c,g⟩:=(c.front 0).giveR (xs:=([(⟨#[97,108,108]⟩:ByteArray),(⟨#[97,110,100]⟩:ByteArray),(⟨#[97,115]⟩:ByteArray),(⟨#[98,101,103,105,110]⟩:ByteArray),(⟨#[98,101,103,105,110,115]⟩:ByteArray),(⟨#[98,101,116,119,101,101,110]⟩:ByteArray),(⟨#[98,121]⟩:ByteArray),(⟨#[99,97,108,108]⟩:ByteArray),(⟨#[99,97,115,101]⟩:ByteArray),(⟨#[99,97,116,99,104]⟩:ByteArray),(⟨#[99,111,109,109,105,116]⟩:ByteArray),(⟨#[100,101,108,101,116,101]⟩:ByteArray),(⟨#[100,101,115,99]⟩:ByteArray),(⟨#[100,105,115,116,105,110,99,116]⟩:ByteArray),(⟨#[101,108,115,101]⟩:ByteArray),(⟨#[101,110,100]⟩:ByteArray),(⟨#[101,120,99,101,112,116]⟩:ByteArray),(⟨#[101,120,105,115,116,115]⟩:ByteArray),(⟨#[102,111,114]⟩:ByteArray),(⟨#[102,114,111,109]⟩:ByteArray),(⟨#[103,114,111,117,112]⟩:ByteArray),(⟨#[104,97,118,105,110,103]⟩:ByteArray),(⟨#[104,105,100,101]⟩:ByteArray),(⟨#[105,102]⟩:ByteArray),(⟨#[105,110]⟩:ByteArray),(⟨#[105,110,112,117,116]⟩:ByteArray),(⟨#[105,110,115,101,114,116]⟩:ByteArray),(⟨#[105,110,116]⟩:ByteArray),(⟨#[105,110,116,111]⟩:ByteArray),(⟨#[105,110,116,101,114,115,101,99,116]⟩:ByteArray),(⟨#[105,115]⟩:ByteArray),(⟨#[106,111,105,110]⟩:ByteArray),(⟨#[107,101,121]⟩:ByteArray),(⟨#[108,101,102,116]⟩:ByteArray),(⟨#[108,101,118,101,108]⟩:ByteArray),(⟨#[108,101,118,101,108,115]⟩:ByteArray),(⟨#[108,105,109,105,116]⟩:ByteArray),(⟨#[110,111,116]⟩:ByteArray),(⟨#[110,117,108,108]⟩:ByteArray),(⟨#[111,110]⟩:ByteArray),(⟨#[111,114]⟩:ByteArray),(⟨#[111,114,100,101,114]⟩:ByteArray),(⟨#[112,114,105,110,99,105,112,97,108]⟩:ByteArray),(⟨#[112,114,105,110,116]⟩:ByteArray),(⟨#[112,114,111,99]⟩:ByteArray),(⟨#[114,97,105,115,101]⟩:ByteArray),(⟨#[114,111,108,108,98,97,99,107]⟩:ByteArray),(⟨#[114,111,119,115]⟩:ByteArray),(⟨#[115,101,108,101,99,116]⟩:ByteArray),(⟨#[115,101,116]⟩:ByteArray),(⟨#[116,97,98,108,101]⟩:ByteArray),(⟨#[116,101,120,116]⟩:ByteArray),(⟨#[116,104,101,110]⟩:ByteArray),(⟨#[116,114,117,101]⟩:ByteArray),(⟨#[116,114,121]⟩:ByteArray),(⟨#[102,97,108,115,101]⟩:ByteArray),(⟨#[98,111,111,108]⟩:ByteArray),(⟨#[117,110,105,111,110]⟩:ByteArray),(⟨#[117,112,100,97,116,101]⟩:ByteArray),(⟨#[118,97,108,117,101,115]⟩:ByteArray),(⟨#[118,97,114]⟩:ByteArray),(⟨#[118,105,115,105,98,108,101]⟩:ByteArray),(⟨#[119,104,101,110]⟩:ByteArray),(⟨#[119,104,101,114,101]⟩:ByteArray),(⟨#[119,104,105,108,101]⟩:ByteArray),(⟨#[99,104,97,110,110,101,108]⟩:ByteArray),(⟨#[115,107,105,112]⟩:ByteArray)]).map D.str) (by simp) h
  refine V ?_;cases d;refine N (v:=_) b j ⟨_,_,_,j,c.nil,j,(p_ f),67,j,g⟩

theorem cl_79:Callable Tryz.prog 79:=⟨_,Tryz.func79,by kernel_rfl,by kernel_rfl⟩

def ref05_Word.C (s:ByteArray→Option Bool):Prop:=∀ {d r},s d=some r→∀ {b c },Inv b c [] c [] b→Calls Tryz.prog 79 #[.string d] b (Ret b c [] fun G' L' v=>L'=[]∧v = .bool r)

theorem ref05_Word.ok (k:Nat):ref05_Word.C (ref05_Word k):=by
  intro aa r d ad u  f
  unfold ref05_Word at d
  refine Ci 18 Tryz.func79 j j j fun a c=>?_
  refine S (G (R q 1 c j fun a c=>E (T (S (G ?_)))));obtain ⟨ae,ak,d⟩:=bd d;refine J cl_87 f c j j ((ref05_Words.ok k) ak f.pass0 ) j ?_
  rintro a w _ n _ ⟨rfl,am,ao,rfl,x⟩ aq f c;refine R q 1 c j fun a c=>E (T (S (S (G (R q 1 c j fun a c=>E (T ?_))))));obtain ⟨z,h,y⟩:=bd d
  refine X c f (fun e L a' w'=>∃ ac m,z = .go ac∧n.le m∧Env a' 18 []∧Inv ad u [] m L w') ?_ ?_;rotate_left
  · rintro a w ⟨ac,m,rfl,ap,c,f⟩;have d:=Lg y;refine T (S (G (R q 1 c j fun a c=>E (T (V ?_)))));cases d;refine N (v:=_) c j ⟨_,_,_,j,f.nil,j,j⟩
  
  refine O (Q c f (fun e L n' a' w'=>∃ i34 g ab i,n'=List.length g∧i34≤ae.length∧ae.drop i34=g∧forL (ref05_Word.b0 k aa) i34 g ab=some z∧n.le i∧Env a' 18 (sl e [0,3] [(4,i_ (i34:Int))])∧Inv ad u [] i L w') _ ⟨0,_,_,n,j,Nat.zero_le _,j,h,rf,c.kp j,f⟩ ?_)
  rintro ar a w ⟨i34,g,ab,i,rfl,ai,l,h,p,c,f⟩;rcases g with _ | ⟨al,g⟩
  · obtain rfl:=Fn h;have s:=Do l ai;refine S (S (G (R q 4 c j fun a c=>E (T ?_))));have c:=c.tr (t:=9) j (decide_eq_false (by omega))
    refine Fa c j (Ex (Xe (Xe (Xh (T (⟨_,i,j,p,c.kp j,f⟩))))))
  obtain ⟨av,d,h⟩:=Fs h;obtain ⟨aj,l,s⟩:=Dc l;unfold ref05_Word.b0 at d;refine S (S (G (R q 4 c j fun a c=>E (T ?_))))
  have c:=c.tr (t:=9) j (decide_eq_true (by omega));refine Tr c j (K (T (S (O (S (G (R q 2 c j fun a c=>?_)))))))
  obtain ⟨an,au,cs,ah,ag,af⟩:=Sa (x.m p) (Int.natCast_nonneg _) (natIdx aj);obtain rfl:=rep_str.1 ag
  refine L f c j (I q ah j j j) j fun a c=>L f c j (Fg q af 0 j j j j) j fun a c=>R q 2 c j fun a c=>E (T (Cc (b:=decide (al=aa)) c j (fun o=>?_) (fun o=>?_)))
  rotate_left
  · replace d:=cf o d;refine K (xB (T (G (R q 3 c j fun a c=>E (T ?_)))));cases d;have c:=c.setI (t:=4) j (Wc s (Ln x))
    exact ⟨g.length,Nat.lt_succ_self _,i34 + 1,g,_,i,j,s,l,h,p,c.kp j,f⟩
  replace d:=ct o d;refine S (G (R q 1 c j fun a c=>E (T (V (Xb (Xr (Xr (Xb (Xr (Xr ?_))))))))));cases d;obtain rfl:=Nr h;have d:=Le y;cases d
  refine N (v:=_) c j ⟨_,_,_,j,f.nil,j,j⟩

theorem cl_63:Callable Tryz.prog 63:=⟨_,Tryz.func63,by kernel_rfl,by kernel_rfl⟩

def ref06_P_name.C (s:Tref06_P→Option (ByteArray × Tref06_P)):Prop:=∀ {b r},s b=some r→∀ {d c h f e g},Inv d c h c [.blk f [.slice e b.T.length g,i_ b.I,i_ b.Deep,i_ b.At,i_ b.E] 105] d→(Sl c e g 4 (b.T.map TToken.d))→Calls Tryz.prog 63 #[(P f)] d (Ret d c h fun G' L' v=>L'=[.blk f [.slice e b.T.length g,i_ r.2.I,i_ b.Deep,i_ r.2.At,i_ r.2.E] 105]∧v = .string r.1)
end Go.Proofs.YtliaopbgkcdibaaGreat
