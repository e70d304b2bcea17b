/- The contracts: what the machine does at a call is what the plain function says. Written by mk.py. -/
import Derived.Test.YthaekpmkjfmilaaGreatCgN0
set_option linter.unusedVariables false
set_option linter.unusedSimpArgs false
set_option maxRecDepth 100000
namespace Go.Proofs.YthaekpmkjfmilaaGreat
open Go.RowKit
theorem erase_Outs.ok (k:Nat):erase_Outs.C (erase_Outs k):=by
  intro bw a2 bx r g an ae bz b2 ca d au av
  unfold erase_Outs at g
  refine Ci 47 Tryz.func35 j j j fun a c=>?_
  refine S (G (R q 1 c j fun a c=>E (T (S (G (R q 1 c j fun a c=>E (T (S (G (R q 1 c j fun a c=>?_))))))))));obtain ⟨a3,bv,g⟩:=bd g
  refine J cl_76 d c j j ((schema_Catalog_Channels.ok k) bv d.pass0 au) j ?_;rintro a w _ af _ ⟨rfl,b1,b9,rfl,a8⟩ ay d c
  refine R q 1 c j fun a c=>E (T (S (S (G (R q 3 c j fun a c=>E (T ?_))))));have d:=d.nilrow 135 4;have bg:RL af 4 (([]:List TOut).map TOut.d) []:=Rn
  obtain ⟨a1,s,bc⟩:=bd g
  refine X c d (fun e L a' w'=>∃ n ag ac ah ao,a1 = .go n∧af.le ag∧Env a' 47 [(7,.slice ac n.length ah)]∧Inv an ae [] ag [.row (.slice ac n.length ah) 135 4 n.length ao] w'∧RL ag 4 (n.map TOut.d) ao) ?_ ?_
  rotate_left
  · rintro a w ⟨n,ag,ac,ah,ao,rfl,cb,c,d,bh⟩;have g:=Lg bc;refine T (S (G (R q 2 c j fun a c=>E (T ?_))))
    obtain ⟨b4,cc,d,a9⟩:=(d.front 0).giveR (xs:=n.map TOut.d) (by simp) bh;refine V ?_;cases g;refine N (v:=_) c j ⟨_,_,_,j,d.nil,j,ac,ah,j,a9⟩
  
  refine O (Q c d (fun e L n' a' w'=>∃ i823 i m h u y p,n'=List.length i∧i823≤a2.length∧a2.drop i823=i∧forL (erase_Outs.b0 k a3 bw bx) i823 i m=some a1∧af.le h∧Env a' 47 (sl e [0,2,8,13,14] [(15,i_ (i823:Int)),(7,.slice u m.length y)])∧Inv an ae [] h [.row (.slice u m.length y) 135 4 m.length p] w'∧RL h 4 (m.map TOut.d) p) _ ⟨0,_,_,af,none,0,[],j,Nat.zero_le _,j,s,rf,c.kp j,d,bg⟩ ?_)
  rintro cd a w ⟨i823,i,m,h,u,y,p,rfl,br,ak,s,ab,c,d,ap⟩;rcases i with _ | ⟨l,i⟩
  · obtain rfl:=Fn s;have ar:=Do ak br;refine S (G (R q 1 c j fun a c=>E (T (S ?_))));have c:=c.tr (t:=16) j (decide_eq_false (by omega))
    refine Fa c j (Ex (Xe (Xe (Xh (T (⟨_,h,u,y,p,j,ab,c.kp j,d,ap⟩))))))
  obtain ⟨ch,g,s⟩:=Fs s;obtain ⟨bs,ak,ar⟩:=Dc ak;unfold erase_Outs.b0 at g;refine S (G (R q 1 c j fun a c=>E (T (S ?_))))
  have c:=c.tr (t:=16) j (decide_eq_true (by omega));refine Tr c j (K (T (S ?_)));obtain ⟨am,g,bj⟩:=bd g
  refine X c d (fun e L a' w'=>∃ x ad ai aj,h.le x∧Env a' 47 (sl e [0,2,8,13,14,15] [(7,.slice ad am.length ai)])∧Inv an ae [] x [.row (.slice ad am.length ai) 135 4 am.length aj] w'∧RL x 4 (am.map TOut.d) aj) ?_ ?_
  rotate_left
  · rintro a w ⟨x,ad,ai,aj,bq,c,d,bi⟩;have g:=bj;refine T (G (R q 2 c j fun a c=>E (T ?_)));cases g;have c:=c.setI (t:=15) j (Wc ar (Ln av))
    exact ⟨i.length,Nat.lt_succ_self _,i823 + 1,i,_,x,ad,ai,aj,j,ar,ak,s,(ab.t bq),c.kp j,d,bi⟩
  refine O (S (G ?_));obtain ⟨b6,cg,cs,bo,bk,bb⟩:=Sa (av.m (ay.t ab)) (Int.natCast_nonneg _) (natIdx bs);obtain rfl:=TOut.inv.1 bk
  refine L d c j (I q bo j j j) j fun a c=>L d c j (Fg q bb 0 j j j j) j fun a c=>A d c j z_135 j j fun a w b7 c d=>W q 0 d c j j j j j j j j j j fun a w c d=>E (T (S ?_))
  obtain ⟨a0,g,bl⟩:=bd g;refine X c d (fun e L a' w'=>∃ o,h.le o∧Env a' 47 (sl e [0,2,7,8,10,13,14,15] [(40,.bool a0)])∧Inv an ae [] o L w') ?_ ?_;rotate_left
  · rintro a w ⟨o,al,c,d⟩;have g:=bl;refine T (Cc (b:=a0) c j (fun aq=>?_) (fun aq=>?_));rotate_left
    · replace g:=cf aq g;refine K (xB (T ?_));cases g;exact ⟨o,u,y,p,al,c.kp j,(d.dropN 1 j),(ap.m al)⟩
    replace g:=ct aq g;refine G (R q 1 c j fun a c=>L d c j (B q 0 j j j j) j fun a c=>Bs ai_51 d c j j j j j fun a w b8 c d=>?_)
    have aw:RL o 4 ([l].map TOut.d) _:=(Rc (TOut.inv.2 j) j Rn);obtain ⟨_,bm,g⟩:=bd g
    refine Ao (f:=TOut.d) (xs:=m) (ys:=[l]) ai_51 2 0 d c j j j aw j j (Ll bm) j fun a w a4 a6 c d=>?_;have be:=Ra (ap.m al) aw
    refine R q 1 c j fun a c=>E (xB (T ?_));cases g
    exact ⟨o,a4,a6,(p ++ [i_ l.Channel,i_ l.Value_.Type_,i_ l.Value_.N,.string l.Value_.S]),al,c.kp j,(d.dropN 2 j),be⟩
  
  refine Mx [0] [20] (.step 0 0 (.step 1 1 (.step 2 0 (.step 3 0 (.step 4 0 (.step 5 1 (.step 6 0 (.step 7 0 (.step 8 0 (.step 9 0 (.step 10 0 (.step 11 0 (.step 13 0 (.step 14 0 (.step 15 1 (.step 16 0 (.step 17 0 (.step 18 1 (.step 19 0 (.step 12 2 (.step 20 3 (.step 21 0 .nil)))))))))))))))))))))) mixed (mixF_all (by kernel_rfl)) d (by decide) j fun w d hS=>H q 1 c j fun a c=>Dd hS c j j (Rw fun _=>(B q 0 j j j j)) j fun a c=>H q 2 c j fun a c=>?_
  rcases Bo (decide ((0:Int)≤l.Channel)) with z | z;rotate_left
  · replace g:=cf z g;have c:=c.tr (t:=22) j z
    refine H q 1 c j fun a c=>d_ldU hS c j j j fun a c=>H q 8 c j fun a c=>d_ldU hS c j j j fun a c=>H q 2 c j fun a c=>d_ldU hS c j j j fun a c=>H q 1 c j fun a c=>Df j (R q 1 c j fun a c=>De (d.sw [0] (by decide) j rf) fun hS=>Dl j (R q 1 c j fun a c=>Dn (H q 1 c j fun a c=>Dz (T ?_))))
    cases g;exact ⟨h,rf,c.kp j,d⟩
  replace g:=ct z g;have c:=c.tr (t:=22) j z
  refine H q 1 c j fun a c=>Dd hS c j j (Rw fun _=>(B q 0 j j j j)) j fun a c=>H q 5 c j fun a c=>?_
  rcases Bo (decide (l.Channel < (a3.length:Int))) with aa | aa;rotate_left
  · replace g:=cf aa g;have c:=c.tr (t:=29) j aa
    refine H q 3 c j fun a c=>d_ldU hS c j j j fun a c=>H q 2 c j fun a c=>d_ldU hS c j j j fun a c=>H q 1 c j fun a c=>Df j (R q 1 c j fun a c=>De (d.sw [0] (by decide) j rf) fun hS=>Dl j (R q 1 c j fun a c=>Dn (H q 1 c j fun a c=>Dz (T ?_))))
    cases g;exact ⟨h,rf,c.kp j,d⟩
  replace g:=ct aa g;have c:=c.tr (t:=29) j aa;refine H q 3 c j fun a c=>Dd hS c j j (Rw fun _=>(B q 0 j j j j)) j fun a c=>?_
  obtain ⟨ci,az,g⟩:=bd g;obtain ⟨b5,ce,cs,bn,bf,ba⟩:=Sa (a8.m ab) (Go az).1 (Go az).2;obtain rfl:=TNamed.inv.1 bf
  refine Dr c j j (I q bn j j j) j fun a c=>H q 1 c j fun a c=>Dd hS c j j (Rw fun _=>(Fg q ba 1 j j j j)) j fun a c=>H q 1 c j fun a c=>Df j ?_
  obtain ⟨cj,bt,g⟩:=bd g;refine J cl_77 d c j j ((schema_Catalog_Lattice.ok k) bt d.pass0 (au.m (ay.t ab))) j ?_;rintro a w _ b3 _ ⟨rfl,b0,rfl,a7⟩ ax d c
  refine De (d.sw [0] (by decide) j ax) fun hS=>Dl j ?_;obtain ⟨ck,bu,g⟩:=bd g;refine J cl_78 d c j j ((lattice_Lattice_Leq.ok k) bu d.pass0 a7) j ?_
  rintro a w _ a5 _ ⟨rfl,rfl⟩ bp d c;refine Dn (H q 1 c j fun a c=>Dz (T ?_));cases g;exact ⟨a5,(ax.t bp),c.kp j,d⟩

theorem cl_37:Callable Tryz.prog 37:=⟨_,Tryz.func37,by kernel_rfl,by kernel_rfl⟩

def erase_Mix.C (s:(Option Tstore_DB)→(Option Tstore_DB)→Int→Option (Option Tstore_DB)):Prop:=∀ {g h i r},s g h i=some r→∀ {c b e f},Inv c b [] b [] c→(Pt b e 95 Tstore_DB.d g)→(Pt b f 95 Tstore_DB.d h)→Calls Tryz.prog 37 #[.pointer e,.pointer f,i_ i] c (Ret c b [] fun G' L' v=>L'=[]∧∃ d,v = .pointer d∧Pt G' d 95 Tstore_DB.d r)

theorem erase_Mix.ok (k:Nat):erase_Mix.C (erase_Mix k):=by
  intro s aa ab r d u h x y f n o
  unfold erase_Mix at d
  refine Ci 38 Tryz.func37 j j j fun a c=>?_
  refine S (G (R q 1 c j fun a c=>E (T (S (S ?_)))));obtain ⟨m,d,p⟩:=bd d
  refine X c f (fun e L a' w'=>∃ i,h.le i∧Env a' 38 (sl e [0,1,2] [(15,.bool m)])∧Inv u h [] i L w') ?_ ?_;rotate_left
  · rintro a w ⟨i,z,c,f⟩;have d:=p;refine T (Cc (b:=m) c j (fun l=>?_) (fun l=>?_));rotate_left
    · replace d:=cf l d;cases d
    replace d:=ct l d;refine S (G (R q 1 c j fun a c=>E (T (V (Xr ?_)))));cases d;refine N (v:=_) c j ⟨_,_,_,j,f.nil,j,none,j,Pn⟩
  refine G (R q 1 c j fun a c=>L f c j (f_pnil up_29 n j j) j fun a c=>R q 1 c j fun a c=>?_);rcases Bo s.isNone with g | g
  · replace d:=ct g d;have c:=c.tr (t:=12) j g;refine R q 3 c j fun a c=>E (T ?_);cases d;exact ⟨h,rf,c.kp j,f⟩
  replace d:=cf g d;have c:=c.tr (t:=12) j g;refine R q 1 c j fun a c=>L f c j (f_pnil up_29 o j j) j fun a c=>R q 1 c j fun a c=>E (T ?_);cases d
  exact ⟨h,rf,c.kp j,f⟩

theorem cl_11:Callable Tryz.prog 11:=⟨_,Tryz.func11,by kernel_rfl,by kernel_rfl⟩

def law20_EraseNil.C (s:Int→(List TOut)→Option Bool):Prop:=∀ {g d r},s g d=some r→∀ {c b e f},Inv c b [] b [] c→(Sl b e f 4 (d.map TOut.d))→Calls Tryz.prog 11 #[i_ g,.slice e d.length f] c (Ret c b [] fun G' L' v=>L'=[]∧v = .bool r)

theorem law20_EraseNil.ok (k:Nat):law20_EraseNil.C (law20_EraseNil k):=by
  intro a8 ao r d ap u aw a1 f ad
  unfold law20_EraseNil at d
  refine Ci 32 Tryz.func11 j j j fun a c=>?_
  
  refine S (G (R q 1 c j fun a c=>E (T (S (S (G (R q 3 c j fun a c=>E (T (Cc (b:=decide ((60:Int) < (ao.length:Int))) c j (fun s=>?_) (fun s=>?_))))))))))
  · replace d:=ct s d;refine S (G ?_);obtain ⟨a9,aj,d⟩:=bd d;refine J cl_28 f c j j ((law20_alive.ok kAlive) aj f.pass0 ) j ?_;rintro a w _ a0 _ ⟨rfl,rfl⟩ a7 f c
    refine R q 1 c j fun a c=>E (T (V (Xr ?_)));cases d;refine N (v:=_) c j ⟨_,_,_,j,f.nil,j,j⟩
  replace d:=cf s d;refine K (T (S ?_));obtain ⟨an,d,af⟩:=bd d;refine X c f (fun e L a' w'=>∃ p,u.le p∧Env a' 32 [(4,.bool an)]∧Inv ap u [] p L w') ?_ ?_;rotate_left
  · rintro a w ⟨p,a6,c,f⟩;have d:=af;refine T (V ?_);cases d;refine N (v:=_) c j ⟨_,_,_,j,f.nil,j,j⟩
  refine G (R q 1 c j fun a c=>?_);obtain ⟨aq,ah,d⟩:=bd d;refine J cl_29 f c j j ((erase_Show.ok k) ah f.pass0 Pn) j ?_
  rintro a w _ y _ ⟨rfl,ax,a2,rfl,a4⟩ g f c;refine R q 3 c j fun a c=>?_;rcases Bo (decide ((aq.length:Int)=(0:Int))) with h | h;rotate_left
  · replace d:=cf h d;have c:=c.tr (t:=13) j h;refine R q 19 c j fun a c=>E (T ?_);cases d;exact ⟨y,g,c.kp j,f⟩
  replace d:=ct h d;have c:=c.tr (t:=13) j h;refine R q 1 c j fun a c=>?_;obtain ⟨ar,ai,d⟩:=bd d
  refine J cl_32 f c j j ((erase_Same.ok k) ai f.pass0 Pn Pn) j ?_;rintro a w _ z _ ⟨rfl,rfl⟩ n f c;refine R q 2 c j fun a c=>?_;rcases Bo ar with i | i
  rotate_left
  · replace d:=cf i d;have c:=c.tr (t:=17) j i;refine R q 15 c j fun a c=>E (T ?_);cases d;exact ⟨z,(g.t n),c.kp j,f⟩
  replace d:=ct i d;have c:=c.tr (t:=17) j i;refine R q 1 c j fun a c=>?_;obtain ⟨au,ak,d⟩:=bd d
  refine J cl_37 f c j j ((erase_Mix.ok k) ak f.pass0 Pn Pn) j ?_;rintro a w _ aa _ ⟨rfl,ay,rfl,ae⟩ o f c
  refine L f c j (f_pnil up_29 ae j j) j fun a c=>R q 2 c j fun a c=>?_;rcases Bo au.isNone with l | l;rotate_left
  · replace d:=cf l d;have c:=c.tr (t:=22) j l;refine R q 10 c j fun a c=>E (T ?_);cases d;exact ⟨aa,((g.t n).t o),c.kp j,f⟩
  replace d:=ct l d;have c:=c.tr (t:=22) j l;refine R q 2 c j fun a c=>?_;obtain ⟨av,al,d⟩:=bd d
  refine J cl_35 f c j j ((erase_Outs.ok k) al f.pass0 Pn (ad.m ((g.t n).t o))) j ?_;rintro a w _ ab _ ⟨rfl,az,a3,rfl,a5⟩ x f c
  refine R q 4 c j fun a c=>?_;rcases Bo (decide ((av.length:Int)=(0:Int))) with m | m;rotate_left
  · replace d:=cf m d;have c:=c.tr (t:=29) j m;refine R q 3 c j fun a c=>E (T ?_);cases d;exact ⟨ab,(((g.t n).t o).t x),c.kp j,f⟩
  replace d:=ct m d;have c:=c.tr (t:=29) j m;obtain ⟨ba,am,d⟩:=bd d;refine J cl_28 f c j j ((law20_alive.ok kAlive) am f.pass0 ) j ?_;rintro a w _ ac _ ⟨rfl,rfl⟩ ag f c
  refine R q 2 c j fun a c=>E (T ?_);cases d;exact ⟨ac,((((g.t n).t o).t x).t ag),c.kp j,f⟩
end Go.Proofs.YthaekpmkjfmilaaGreat
