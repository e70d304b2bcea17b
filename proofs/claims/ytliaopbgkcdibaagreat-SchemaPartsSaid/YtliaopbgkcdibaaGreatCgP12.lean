/- The contracts: what the machine does at a call is what the plain function says. Written by mk.py. -/
import Derived.Test.YtliaopbgkcdibaaGreatCgP7
import Derived.Test.YtliaopbgkcdibaaGreatCgP8
import Derived.Test.YtliaopbgkcdibaaGreatCgP9
import Derived.Test.YtliaopbgkcdibaaGreatCgP10
import Derived.Test.YtliaopbgkcdibaaGreatCgP11
set_option linter.unusedVariables false
set_option linter.unusedSimpArgs false
set_option maxRecDepth 100000
namespace Go.Proofs.YtliaopbgkcdibaaGreat
open Go.RowKit
theorem ref06_P_Expr.ok_all:∀ k,ref06_P_Expr.C (ref06_P_Expr k)∧ref06_P_and.C (ref06_P_and k)∧ref06_P_not.C (ref06_P_not k)∧ref06_P_cmp.C (ref06_P_cmp k)∧ref06_P_sum.C (ref06_P_sum k)∧ref06_P_Query.C (ref06_P_Query k)∧ref06_P_prod.C (ref06_P_prod k)∧ref06_P_part.C (ref06_P_part k)∧ref06_P_unary.C (ref06_P_unary k)∧ref06_P_src.C (ref06_P_src k)∧ref06_P_exprs.C (ref06_P_exprs k)∧ref06_P_prim.C (ref06_P_prim k)∧ref06_P_one.C (ref06_P_one k)
  | 0=>⟨(by intro _ _ h;cases h),(by intro _ _ h;cases h),(by intro _ _ h;cases h),(by intro _ _ h;cases h),(by intro _ _ h;cases h),(by intro _ _ h;cases h),(by intro _ _ h;cases h),(by intro _ _ h;cases h),(by intro _ _ h;cases h),(by intro _ _ h;cases h),(by intro _ _ h;cases h),(by intro _ _ h;cases h),(by intro _ _ h;cases h)⟩
  | k + 1=>by
    have h:=ref06_P_Expr.ok_all k
    exact ⟨ref06_P_Expr.F_ok k (ref06_P_Expr k) (ref06_P_and k) (ref06_P_not k) (ref06_P_cmp k) (ref06_P_sum k) (ref06_P_Query k) (ref06_P_prod k) (ref06_P_part k) (ref06_P_unary k) (ref06_P_src k) (ref06_P_exprs k) (ref06_P_prim k) (ref06_P_one k) h.1 h.2.1 h.2.2.1 h.2.2.2.1 h.2.2.2.2.1 h.2.2.2.2.2.1 h.2.2.2.2.2.2.1 h.2.2.2.2.2.2.2.1 h.2.2.2.2.2.2.2.2.1 h.2.2.2.2.2.2.2.2.2.1 h.2.2.2.2.2.2.2.2.2.2.1 h.2.2.2.2.2.2.2.2.2.2.2.1 h.2.2.2.2.2.2.2.2.2.2.2.2,ref06_P_and.F_ok k (ref06_P_Expr k) (ref06_P_and k) (ref06_P_not k) (ref06_P_cmp k) (ref06_P_sum k) (ref06_P_Query k) (ref06_P_prod k) (ref06_P_part k) (ref06_P_unary k) (ref06_P_src k) (ref06_P_exprs k) (ref06_P_prim k) (ref06_P_one k) h.1 h.2.1 h.2.2.1 h.2.2.2.1 h.2.2.2.2.1 h.2.2.2.2.2.1 h.2.2.2.2.2.2.1 h.2.2.2.2.2.2.2.1 h.2.2.2.2.2.2.2.2.1 h.2.2.2.2.2.2.2.2.2.1 h.2.2.2.2.2.2.2.2.2.2.1 h.2.2.2.2.2.2.2.2.2.2.2.1 h.2.2.2.2.2.2.2.2.2.2.2.2,ref06_P_not.F_ok k (ref06_P_Expr k) (ref06_P_and k) (ref06_P_not k) (ref06_P_cmp k) (ref06_P_sum k) (ref06_P_Query k) (ref06_P_prod k) (ref06_P_part k) (ref06_P_unary k) (ref06_P_src k) (ref06_P_exprs k) (ref06_P_prim k) (ref06_P_one k) h.1 h.2.1 h.2.2.1 h.2.2.2.1 h.2.2.2.2.1 h.2.2.2.2.2.1 h.2.2.2.2.2.2.1 h.2.2.2.2.2.2.2.1 h.2.2.2.2.2.2.2.2.1 h.2.2.2.2.2.2.2.2.2.1 h.2.2.2.2.2.2.2.2.2.2.1 h.2.2.2.2.2.2.2.2.2.2.2.1 h.2.2.2.2.2.2.2.2.2.2.2.2,ref06_P_cmp.F_ok k (ref06_P_Expr k) (ref06_P_and k) (ref06_P_not k) (ref06_P_cmp k) (ref06_P_sum k) (ref06_P_Query k) (ref06_P_prod k) (ref06_P_part k) (ref06_P_unary k) (ref06_P_src k) (ref06_P_exprs k) (ref06_P_prim k) (ref06_P_one k) h.1 h.2.1 h.2.2.1 h.2.2.2.1 h.2.2.2.2.1 h.2.2.2.2.2.1 h.2.2.2.2.2.2.1 h.2.2.2.2.2.2.2.1 h.2.2.2.2.2.2.2.2.1 h.2.2.2.2.2.2.2.2.2.1 h.2.2.2.2.2.2.2.2.2.2.1 h.2.2.2.2.2.2.2.2.2.2.2.1 h.2.2.2.2.2.2.2.2.2.2.2.2,ref06_P_sum.F_ok k (ref06_P_Expr k) (ref06_P_and k) (ref06_P_not k) (ref06_P_cmp k) (ref06_P_sum k) (ref06_P_Query k) (ref06_P_prod k) (ref06_P_part k) (ref06_P_unary k) (ref06_P_src k) (ref06_P_exprs k) (ref06_P_prim k) (ref06_P_one k) h.1 h.2.1 h.2.2.1 h.2.2.2.1 h.2.2.2.2.1 h.2.2.2.2.2.1 h.2.2.2.2.2.2.1 h.2.2.2.2.2.2.2.1 h.2.2.2.2.2.2.2.2.1 h.2.2.2.2.2.2.2.2.2.1 h.2.2.2.2.2.2.2.2.2.2.1 h.2.2.2.2.2.2.2.2.2.2.2.1 h.2.2.2.2.2.2.2.2.2.2.2.2,ref06_P_Query.F_ok k (ref06_P_Expr k) (ref06_P_and k) (ref06_P_not k) (ref06_P_cmp k) (ref06_P_sum k) (ref06_P_Query k) (ref06_P_prod k) (ref06_P_part k) (ref06_P_unary k) (ref06_P_src k) (ref06_P_exprs k) (ref06_P_prim k) (ref06_P_one k) h.1 h.2.1 h.2.2.1 h.2.2.2.1 h.2.2.2.2.1 h.2.2.2.2.2.1 h.2.2.2.2.2.2.1 h.2.2.2.2.2.2.2.1 h.2.2.2.2.2.2.2.2.1 h.2.2.2.2.2.2.2.2.2.1 h.2.2.2.2.2.2.2.2.2.2.1 h.2.2.2.2.2.2.2.2.2.2.2.1 h.2.2.2.2.2.2.2.2.2.2.2.2,ref06_P_prod.F_ok k (ref06_P_Expr k) (ref06_P_and k) (ref06_P_not k) (ref06_P_cmp k) (ref06_P_sum k) (ref06_P_Query k) (ref06_P_prod k) (ref06_P_part k) (ref06_P_unary k) (ref06_P_src k) (ref06_P_exprs k) (ref06_P_prim k) (ref06_P_one k) h.1 h.2.1 h.2.2.1 h.2.2.2.1 h.2.2.2.2.1 h.2.2.2.2.2.1 h.2.2.2.2.2.2.1 h.2.2.2.2.2.2.2.1 h.2.2.2.2.2.2.2.2.1 h.2.2.2.2.2.2.2.2.2.1 h.2.2.2.2.2.2.2.2.2.2.1 h.2.2.2.2.2.2.2.2.2.2.2.1 h.2.2.2.2.2.2.2.2.2.2.2.2,ref06_P_part.F_ok k (ref06_P_Expr k) (ref06_P_and k) (ref06_P_not k) (ref06_P_cmp k) (ref06_P_sum k) (ref06_P_Query k) (ref06_P_prod k) (ref06_P_part k) (ref06_P_unary k) (ref06_P_src k) (ref06_P_exprs k) (ref06_P_prim k) (ref06_P_one k) h.1 h.2.1 h.2.2.1 h.2.2.2.1 h.2.2.2.2.1 h.2.2.2.2.2.1 h.2.2.2.2.2.2.1 h.2.2.2.2.2.2.2.1 h.2.2.2.2.2.2.2.2.1 h.2.2.2.2.2.2.2.2.2.1 h.2.2.2.2.2.2.2.2.2.2.1 h.2.2.2.2.2.2.2.2.2.2.2.1 h.2.2.2.2.2.2.2.2.2.2.2.2,ref06_P_unary.F_ok k (ref06_P_Expr k) (ref06_P_and k) (ref06_P_not k) (ref06_P_cmp k) (ref06_P_sum k) (ref06_P_Query k) (ref06_P_prod k) (ref06_P_part k) (ref06_P_unary k) (ref06_P_src k) (ref06_P_exprs k) (ref06_P_prim k) (ref06_P_one k) h.1 h.2.1 h.2.2.1 h.2.2.2.1 h.2.2.2.2.1 h.2.2.2.2.2.1 h.2.2.2.2.2.2.1 h.2.2.2.2.2.2.2.1 h.2.2.2.2.2.2.2.2.1 h.2.2.2.2.2.2.2.2.2.1 h.2.2.2.2.2.2.2.2.2.2.1 h.2.2.2.2.2.2.2.2.2.2.2.1 h.2.2.2.2.2.2.2.2.2.2.2.2,ref06_P_src.F_ok k (ref06_P_Expr k) (ref06_P_and k) (ref06_P_not k) (ref06_P_cmp k) (ref06_P_sum k) (ref06_P_Query k) (ref06_P_prod k) (ref06_P_part k) (ref06_P_unary k) (ref06_P_src k) (ref06_P_exprs k) (ref06_P_prim k) (ref06_P_one k) h.1 h.2.1 h.2.2.1 h.2.2.2.1 h.2.2.2.2.1 h.2.2.2.2.2.1 h.2.2.2.2.2.2.1 h.2.2.2.2.2.2.2.1 h.2.2.2.2.2.2.2.2.1 h.2.2.2.2.2.2.2.2.2.1 h.2.2.2.2.2.2.2.2.2.2.1 h.2.2.2.2.2.2.2.2.2.2.2.1 h.2.2.2.2.2.2.2.2.2.2.2.2,ref06_P_exprs.F_ok k (ref06_P_Expr k) (ref06_P_and k) (ref06_P_not k) (ref06_P_cmp k) (ref06_P_sum k) (ref06_P_Query k) (ref06_P_prod k) (ref06_P_part k) (ref06_P_unary k) (ref06_P_src k) (ref06_P_exprs k) (ref06_P_prim k) (ref06_P_one k) h.1 h.2.1 h.2.2.1 h.2.2.2.1 h.2.2.2.2.1 h.2.2.2.2.2.1 h.2.2.2.2.2.2.1 h.2.2.2.2.2.2.2.1 h.2.2.2.2.2.2.2.2.1 h.2.2.2.2.2.2.2.2.2.1 h.2.2.2.2.2.2.2.2.2.2.1 h.2.2.2.2.2.2.2.2.2.2.2.1 h.2.2.2.2.2.2.2.2.2.2.2.2,ref06_P_prim.F_ok k (ref06_P_Expr k) (ref06_P_and k) (ref06_P_not k) (ref06_P_cmp k) (ref06_P_sum k) (ref06_P_Query k) (ref06_P_prod k) (ref06_P_part k) (ref06_P_unary k) (ref06_P_src k) (ref06_P_exprs k) (ref06_P_prim k) (ref06_P_one k) h.1 h.2.1 h.2.2.1 h.2.2.2.1 h.2.2.2.2.1 h.2.2.2.2.2.1 h.2.2.2.2.2.2.1 h.2.2.2.2.2.2.2.1 h.2.2.2.2.2.2.2.2.1 h.2.2.2.2.2.2.2.2.2.1 h.2.2.2.2.2.2.2.2.2.2.1 h.2.2.2.2.2.2.2.2.2.2.2.1 h.2.2.2.2.2.2.2.2.2.2.2.2,ref06_P_one.F_ok k (ref06_P_Expr k) (ref06_P_and k) (ref06_P_not k) (ref06_P_cmp k) (ref06_P_sum k) (ref06_P_Query k) (ref06_P_prod k) (ref06_P_part k) (ref06_P_unary k) (ref06_P_src k) (ref06_P_exprs k) (ref06_P_prim k) (ref06_P_one k) h.1 h.2.1 h.2.2.1 h.2.2.2.1 h.2.2.2.2.1 h.2.2.2.2.2.1 h.2.2.2.2.2.2.1 h.2.2.2.2.2.2.2.1 h.2.2.2.2.2.2.2.2.1 h.2.2.2.2.2.2.2.2.2.1 h.2.2.2.2.2.2.2.2.2.2.1 h.2.2.2.2.2.2.2.2.2.2.2.1 h.2.2.2.2.2.2.2.2.2.2.2.2⟩

theorem ref06_P_Expr.ok (k:Nat):ref06_P_Expr.C (ref06_P_Expr k):=(ref06_P_Expr.ok_all k).1

theorem ref06_P_and.ok (k:Nat):ref06_P_and.C (ref06_P_and k):=(ref06_P_Expr.ok_all k).2.1

theorem ref06_P_not.ok (k:Nat):ref06_P_not.C (ref06_P_not k):=(ref06_P_Expr.ok_all k).2.2.1

theorem ref06_P_cmp.ok (k:Nat):ref06_P_cmp.C (ref06_P_cmp k):=(ref06_P_Expr.ok_all k).2.2.2.1

theorem ref06_P_sum.ok (k:Nat):ref06_P_sum.C (ref06_P_sum k):=(ref06_P_Expr.ok_all k).2.2.2.2.1

theorem ref06_P_Query.ok (k:Nat):ref06_P_Query.C (ref06_P_Query k):=(ref06_P_Expr.ok_all k).2.2.2.2.2.1

theorem ref06_P_prod.ok (k:Nat):ref06_P_prod.C (ref06_P_prod k):=(ref06_P_Expr.ok_all k).2.2.2.2.2.2.1

theorem ref06_P_part.ok (k:Nat):ref06_P_part.C (ref06_P_part k):=(ref06_P_Expr.ok_all k).2.2.2.2.2.2.2.1

theorem ref06_P_unary.ok (k:Nat):ref06_P_unary.C (ref06_P_unary k):=(ref06_P_Expr.ok_all k).2.2.2.2.2.2.2.2.1

theorem ref06_P_src.ok (k:Nat):ref06_P_src.C (ref06_P_src k):=(ref06_P_Expr.ok_all k).2.2.2.2.2.2.2.2.2.1

theorem ref06_P_exprs.ok (k:Nat):ref06_P_exprs.C (ref06_P_exprs k):=(ref06_P_Expr.ok_all k).2.2.2.2.2.2.2.2.2.2.1

theorem ref06_P_prim.ok (k:Nat):ref06_P_prim.C (ref06_P_prim k):=(ref06_P_Expr.ok_all k).2.2.2.2.2.2.2.2.2.2.2.1

theorem ref06_P_one.ok (k:Nat):ref06_P_one.C (ref06_P_one k):=(ref06_P_Expr.ok_all k).2.2.2.2.2.2.2.2.2.2.2.2

theorem cl_66:Callable Tryz.prog 66:=⟨_,Tryz.func66,by kernel_rfl,by kernel_rfl⟩

def ref06_P_table.C (s:Tref06_P→Option (TTable × Tref06_P)):Prop:=∀ {b r},s b=some r→∀ {d c h f e g},Inv d c h c [.blk f [.slice e b.T.length g,i_ b.I,i_ b.Deep,i_ b.At,i_ b.E] 105] d→(Sl c e g 4 (b.T.map TToken.d))→Calls Tryz.prog 66 #[(P f)] d (Ret d c h fun G' L' v=>∃ i,L'=[.blk f [.slice e b.T.length g,i_ r.2.I,i_ r.2.Deep,i_ r.2.At,i_ r.2.E] 105]∧v = .agg ⟨i⟩∧Rep G' r.1.d i)

theorem ref06_P_table.ok (k:Nat):ref06_P_table.C (ref06_P_table k):=by
  intro z r g a7 aw av a1 ar a4 d i
  unfold ref06_P_table at g
  refine Ci 60 Tryz.func66 j j j fun a c=>?_
  refine S (G (A d c j z_61 j j fun a w dx c d=>E (T (S (G (R q 1 c j fun a c=>?_))))));have d:=d.pick [1,0] (by decide) j;obtain ⟨ap,dd,g⟩:=bd g
  refine M 1 cl_63 d c j j (fun h=>(ref06_P_name.ok k) dd h i) j ?_;rintro a w _ dg _ ⟨rfl,rfl⟩ l d c
  refine L d c j (Bd q j z_61 j j) j fun a c=>A d c j z_61 j j fun a w a2 c d=>W q 0 d c j j j j j j j j j j fun a w c d=>E (T (S (G (R q 1 c j fun a c=>?_))))
  have d:=d.pick [1,0,2] (by decide) j;obtain ⟨d0,cw,g⟩:=bd g;refine M 1 cl_64 d c j j (fun h=>(ref06_P_must.ok k) cw h (i.m l)) j ?_;rintro a w _ dh _ ⟨rfl,rfl⟩ m d c
  refine E (T (S (G (R q 1 c j fun a c=>?_))));obtain ⟨ao,cx,g⟩:=bd g;refine M 1 cl_63 d c j j (fun h=>(ref06_P_name.ok k) cx h (i.m (l.t m))) j ?_
  rintro a w _ dj _ ⟨rfl,rfl⟩ n d c
  refine R q 1 c j fun a c=>W q 1 d c j j j j j j j j j j fun a w c d=>E (T (S (G (R q 1 c j fun a c=>?_))));obtain ⟨d1,cy,g⟩:=bd g
  refine M 1 cl_64 d c j j (fun h=>(ref06_P_must.ok k) cy h (i.m ((l.t m).t n))) j ?_;rintro a w _ ay _ ⟨rfl,rfl⟩ o d c
  refine E (T (S (G (R q 1 c j fun a c=>E (T (S ?_))))));have d:=d.nilrow 82 4;have cs:RL ay 4 (([]:List TCol).map TCol.d) []:=Rn;obtain ⟨b3,aa,cj⟩:=bd g
  refine X c d (fun e L a' w'=>∃ p ax ae af a9,b3 = .go p∧ay.le ax∧Env a' 60 (sl e [0,2,3] [])∧Inv a7 aw av ax [.row (.slice ae p.1.length af) 82 4 p.1.length a9,.blk a1 [.slice ar z.T.length a4,i_ p.2.2.1,i_ z.Deep,i_ p.2.2.2.1,i_ p.2.2.2.2] 105,.blk a2 [.string ap.1,.string ao.1,.slice ae p.1.length af,.slice none 0 0,.string (⟨#[]⟩:ByteArray),.slice none 0 0] 61,nt L 3] w'∧RL ax 4 (p.1.map TCol.d) a9) ?_ ?_
  ·
    refine O (Q c d (fun e L n' a' w'=>∃ t ai aq a3 ak,whileL (ref06_P_table.b0 k z) n' t=some b3∧ay.le ai∧Env a' 60 (sl e [0,2,3] [(4,.bool t.2.1)])∧Inv a7 aw av ai [.row (.slice aq t.1.length a3) 82 4 t.1.length ak,.blk a1 [.slice ar z.T.length a4,i_ t.2.2.1,i_ z.Deep,i_ t.2.2.2.1,i_ t.2.2.2.2] 105,.blk a2 [.string ap.1,.string ao.1,.slice aq t.1.length a3,.slice none 0 0,.string (⟨#[]⟩:ByteArray),.slice none 0 0] 61,nt L 3] w'∧RL ai 4 (t.1.map TCol.d) ak) _ ⟨_,ay,none,0,[],aa,rf,c.kp j,d,cs⟩ ?_)
    rintro bi a w ⟨t,ai,aq,a3,ak,aa,ab,c,d,bt⟩;rcases bi with _ | bi
    · cases aa
    obtain ⟨dz,g,aa⟩:=Wh aa;unfold ref06_P_table.b0 at g;refine S (S (G (R q 1 c j fun a c=>E (T (Cc (b:=t.2.1) c j (fun be=>?_) (fun be=>?_))))))
    rotate_left
    · replace g:=cf be g;refine Ex (Xe (Xe (Xh (T ?_))));cases g;obtain rfl:=Wb aa;exact ⟨_,ai,aq,a3,ak,j,ab,c.kp j,d,bt⟩
    replace g:=ct be g;refine K (T (O (S (G (R q 1 c j fun a c=>?_)))));have d:=d.pick [1,0,2,3] (by decide) j;obtain ⟨bj,c8,g⟩:=bd g
    refine M 1 cl_63 d c j j (fun h=>(ref06_P_name.ok k) c8 h (i.m ((((l.t m).t n).t o).t ab))) j ?_;rintro a w _ ds _ ⟨rfl,rfl⟩ ag d c
    refine L d c j (Bd q j z_82 j j) j fun a c=>A d c j z_82 j j fun a w dv c d=>W q 0 d c j j j j j j j j j j fun a w c d=>E (T (S (G (R q 1 c j fun a c=>?_))))
    have d:=d.pick [1,0,2,3,4] (by decide) j;obtain ⟨bk,c9,g⟩:=bd g
    refine M 1 cl_80 d c j j (fun h=>(ref06_P_ty.ok k) c9 h (i.m (((((l.t m).t n).t o).t ab).t ag))) j ?_;rintro a w _ dt _ ⟨rfl,rfl⟩ an d c
    refine R q 1 c j fun a c=>W q 1 d c j j j j j j j j j j fun a w c d=>E (T (S (G (R q 1 c j fun a c=>?_))));obtain ⟨bl,da,g⟩:=bd g
    refine M 1 cl_61 d c j j (fun h=>(ref06_P_take.ok k) da h (i.m ((((((l.t m).t n).t o).t ab).t ag).t an))) j ?_
    rintro a w _ du _ ⟨rfl,rfl⟩ a6 d c
    refine R q 1 c j fun a c=>W q 1 d c j j j j j j j j j j fun a w c d=>E (T (S (G (R q 1 c j fun a c=>?_))));obtain ⟨bm,db,g⟩:=bd g
    refine M 1 cl_63 d c j j (fun h=>(ref06_P_name.ok k) db h (i.m (((((((l.t m).t n).t o).t ab).t ag).t an).t a6))) j ?_
    rintro a w _ b7 _ ⟨rfl,rfl⟩ bh d c
    refine R q 1 c j fun a c=>W q 1 d c j j j j j j j j j j fun a w c d=>E (T (S (G (R q 1 c j fun a c=>L d c j (B q 3 j j j j) j fun a c=>L d c j (B q 1 j j j j) j fun a c=>Bs ai_59 d c j j j j j fun a w dw c d=>?_))))
    have bu:RL b7 4 ([(TCol.mk bj.1 bk.1 bl.1 bm.1)].map TCol.d) _:=(Rc (TCol.inv.2 j) j Rn);obtain ⟨_,cu,g⟩:=bd g
    refine Ao (f:=TCol.d) (xs:=t.1) (ys:=[(TCol.mk bj.1 bk.1 bl.1 bm.1)]) ai_59 3 0 d c j j j bu j j (Ll cu) j fun a w b5 cb c d=>?_
    have cr:=Ra (bt.m (((ag.t an).t a6).t bh)) bu
    refine R q 1 c j fun a c=>W q 4 d c j j j j j j j j j j fun a w c d=>E (T (G (R q 1 c j fun a c=>?_)))
    have d:=d.pick [1,0,2,3,4,5] (by decide) j;obtain ⟨d8,dc,g⟩:=bd g
    refine M 1 cl_61 d c j j (fun h=>(ref06_P_take.ok k) dc h (i.m ((((((((l.t m).t n).t o).t ab).t ag).t an).t a6).t bh))) j ?_
    rintro a w _ b8 _ ⟨rfl,rfl⟩ b2 d c;refine R q 1 c j fun a c=>E (xB (T ?_));cases g
    exact ⟨bi,Nat.lt_succ_self _,_,b8,b5,cb,(ak ++ [.string bj.1,i_ bk.1,.bool bl.1,.string bm.1]),aa,(((((ab.t ag).t an).t a6).t bh).t b2),c.kp j,(d.pick [3,0,4,5] (by decide) j),(cr.m b2)⟩
  rintro a w ⟨p,ax,ae,af,a9,rfl,u,c,d,ck⟩;have g:=Lg cj;refine T (S (G (R q 1 c j fun a c=>?_)));have d:=d.pick [1,0,2,3] (by decide) j
  obtain ⟨d2,cz,g⟩:=bd g;refine M 1 cl_64 d c j j (fun h=>(ref06_P_must.ok k) cz h (i.m ((((l.t m).t n).t o).t u))) j ?_
  rintro a w _ dk _ ⟨rfl,rfl⟩ v d c;refine E (T (S (S (G (R q 1 c j fun a c=>?_)))));obtain ⟨de,c0,g⟩:=bd g
  refine M 1 cl_61 d c j j (fun h=>(ref06_P_take.ok k) c0 h (i.m (((((l.t m).t n).t o).t u).t v))) j ?_;rintro a w _ bp _ ⟨rfl,rfl⟩ y d c
  refine E (T ?_);obtain ⟨ac,g,cl⟩:=bd g
  refine X c d (fun e L a' w'=>∃ az ah aj,bp.le az∧Env a' 60 (sl e [0,2,3] [])∧Inv a7 aw av az [.blk a1 [.slice ar z.T.length a4,i_ ac.1,i_ z.Deep,i_ ac.2.1,i_ ac.2.2.1] 105,nt L 1,.blk a2 [.string ap.1,.string ao.1,.slice ae p.1.length af,.slice ah ac.2.2.2.length aj,.string (⟨#[]⟩:ByteArray),.slice none 0 0] 61,nt L 3] w'∧Sl az ah aj 1 (ac.2.2.2.map D.str)) ?_ ?_
  · refine Cc (b:=de.1) c j (fun bc=>?_) (fun bc=>?_);rotate_left
    · replace g:=cf bc g;refine K (T ?_);cases g;exact ⟨bp,none,0,rf,c.kp j,d,(Sn _ _ _ _ (Nat.zero_le _))⟩
    replace g:=ct bc g;refine S (G (R q 1 c j fun a c=>?_));obtain ⟨d5,c5,g⟩:=bd g
    refine M 1 cl_64 d c j j (fun h=>(ref06_P_must.ok k) c5 h (i.m ((((((l.t m).t n).t o).t u).t v).t y))) j ?_
    rintro a w _ dq _ ⟨rfl,rfl⟩ bg d c;refine E (T (S (G (R q 1 c j fun a c=>?_))));obtain ⟨d6,c6,g⟩:=bd g
    refine M 1 cl_62 d c j j (fun h=>(ref06_P_names.ok k) c6 h (i.m (((((((l.t m).t n).t o).t u).t v).t y).t bg))) j ?_
    rintro a w _ dr _ ⟨b4,ca,rfl,rfl,ci⟩ b0 d c
    refine R q 1 c j fun a c=>W q 2 d c j j j j j j j j j j fun a w c d=>E (T (G (R q 1 c j fun a c=>?_)));obtain ⟨d7,c7,g⟩:=bd g
    refine M 1 cl_64 d c j j (fun h=>(ref06_P_must.ok k) c7 h (i.m ((((((((l.t m).t n).t o).t u).t v).t y).t bg).t b0))) j ?_
    rintro a w _ b6 _ ⟨rfl,rfl⟩ b1 d c;refine E (T ?_);cases g;exact ⟨b6,b4,ca,((bg.t b0).t b1),c.kp j,d,(ci.m b1)⟩
  rintro a w ⟨az,ah,aj,al,c,d,cc⟩;have g:=cl;refine T (S (S (G (R q 1 c j fun a c=>?_))));obtain ⟨df,c1,g⟩:=bd g
  refine M 1 cl_61 d c j j (fun h=>(ref06_P_take.ok k) c1 h (i.m (((((((l.t m).t n).t o).t u).t v).t y).t al))) j ?_
  rintro a w _ a8 _ ⟨rfl,rfl⟩ am d c;refine E (T ?_);have d:=d.nilrow 75 6;have cm:RL a8 6 (([]:List TExpr).map TExpr.d) []:=Rn;obtain ⟨s,g,co⟩:=bd g
  refine X c d (fun e L a' w'=>∃ a0 au a5 ba,a8.le a0∧Env a' 60 (sl e [2,3] [])∧Inv a7 aw av a0 [.row (.slice au s.1.length a5) 75 6 s.1.length ba,.blk a1 [.slice ar z.T.length a4,i_ s.2.1,i_ s.2.2.1,i_ s.2.2.2.1,i_ s.2.2.2.2.1] 105,nt L 2,.blk a2 [.string ap.1,.string ao.1,.slice ae p.1.length af,.slice ah ac.2.2.2.length aj,.string s.2.2.2.2.2,.slice au s.1.length a5] 61,nt L 4] w'∧RL a0 6 (s.1.map TExpr.d) ba) ?_ ?_
  rotate_left
  · rintro a w ⟨a0,au,a5,ba,bv,c,d,cn⟩;have g:=co
    refine T (S (G (L d c j (B q 3 j j j j) j fun a c=>W q 4 d c j j j j j j j j j j fun a w c d=>E (T ?_))))
    obtain ⟨dl,bw,d,cd⟩:=(d.front 2).giveR (xs:=p.1.map TCol.d) (by simp) (ck.m ((((v.t y).t al).t am).t bv))
    obtain ⟨dm,bx,d,ce⟩:=(d.front 0).giveR (xs:=s.1.map TExpr.d) (by simp) (cn.m bw);refine V ?_;cases g
    refine U q c d (.cell 2 j j j j .nil) j ⟨_,_,_,j,(d.pick [0] (by decide) j),_,j,j,((TTable.inv (x:=(TTable.mk ap.1 ao.1 p.1 ac.2.2.2 s.2.2.2.2.2 s.1))).2 ⟨ae,af,ah,aj,au,a5,j,(cd.m bx),(cc.m (((am.t bv).t bw).t bx)),ce⟩)⟩
  refine Cc (b:=df.1) c j (fun bb=>?_) (fun bb=>?_);rotate_left
  · replace g:=cf bb g;refine K (T ?_);cases g;exact ⟨a8,none,0,[],rf,c.kp j,d,cm⟩
  replace g:=ct bb g;refine S (G (R q 1 c j fun a c=>?_));have d:=d.pick [1,0,2,3,4] (by decide) j;obtain ⟨d3,c2,g⟩:=bd g
  refine M 1 cl_63 d c j j (fun h=>(ref06_P_name.ok k) c2 h (i.m ((((((((l.t m).t n).t o).t u).t v).t y).t al).t am))) j ?_
  rintro a w _ dn _ ⟨rfl,rfl⟩ bf d c
  refine R q 1 c j fun a c=>W q 3 d c j j j j j j j j j j fun a w c d=>E (T (S (G (R q 1 c j fun a c=>?_))));obtain ⟨d4,c3,g⟩:=bd g
  refine M 1 cl_64 d c j j (fun h=>(ref06_P_must.ok k) c3 h (i.m (((((((((l.t m).t n).t o).t u).t v).t y).t al).t am).t bf))) j ?_
  rintro a w _ dp _ ⟨rfl,rfl⟩ bz d c;refine E (T (G (R q 1 c j fun a c=>?_)));obtain ⟨ad,c4,g⟩:=bd g
  refine M 1 cl_81 d c j j (fun h=>(ref06_P_Expr.ok k) c4 h (i.m ((((((((((l.t m).t n).t o).t u).t v).t y).t al).t am).t bf).t bz))) j ?_
  rintro a w _ bq _ ⟨dy,rfl,rfl,cp⟩ cv d c;obtain ⟨bn,br,bo,bs,rfl,cg,ch⟩:=TExpr.inv.1 cp;refine Bs ai_49 d c j j j j j fun a w b9 c d=>?_
  have cq:RL bq 6 ([ad.1].map TExpr.d) _:=(Rc (TExpr.inv.2 ⟨bn,br,bo,bs,j,cg,ch⟩) j Rn)
  refine R q 1 c j fun a c=>W q 4 d c j j j j j j j j j j fun a w c d=>E (T ?_);cases g
  exact ⟨bq,(p_ b9),1,[i_ ad.1.Kind,i_ ad.1.N,.string ad.1.S,.string ad.1.T,.slice bn ad.1.Kids.length br,.slice bo ad.1.Q.length bs],((bf.t bz).t cv),c.kp j,(d.pick [0,1,3,4,5] (by decide) j),cq⟩

theorem cl_49:Callable Tryz.prog 49:=⟨_,Tryz.func49,by kernel_rfl,by kernel_rfl⟩

def ref06_P_Schema.C (s:Tref06_P→Option (TSchema × Tref06_P)):Prop:=∀ {b r},s b=some r→∀ {d c h f e g},Inv d c h c [.blk f [.slice e b.T.length g,i_ b.I,i_ b.Deep,i_ b.At,i_ b.E] 105] d→(Sl c e g 4 (b.T.map TToken.d))→Calls Tryz.prog 49 #[(P f)] d (Ret d c h fun G' L' v=>∃ i,L'=[.blk f [.slice e b.T.length g,i_ r.2.I,i_ r.2.Deep,i_ r.2.At,i_ r.2.E] 105]∧v = .agg ⟨i⟩∧Rep G' r.1.d i)

theorem ref06_P_Schema.ok (k:Nat):ref06_P_Schema.C (ref06_P_Schema k):=by
  intro a9 r g bo ad bi bj bh bk d ab
  unfold ref06_P_Schema at g
  refine Ci 102 Tryz.func49 j j j fun a c=>?_
  
  refine S (G (A d c j z_26 j j fun a w hb c d=>E (T (S (G (L d c j (Bd q j z_26 j j) j fun a c=>A d c j z_26 j j fun a w bs c d=>W q 0 d c j j j j j j j j j j fun a w c d=>E (T (S ?_))))))))
  have d:=d.nilrow 9 1;have e4:RL ad 1 (([]:List ByteArray).map D.str) []:=Rn;have d:=d.nilrow 34 2;have e5:RL ad 2 (([]:List TPair).map TPair.d) []:=Rn;have d:=d.nilrow 61 6
  have e6:RL ad 6 (([]:List TTable).map TTable.d) []:=Rn;have d:=d.nilrow 34 2;have e7:RL ad 2 (([]:List TPair).map TPair.d) []:=Rn;have d:=d.nilrow 34 2
  have e8:RL ad 2 (([]:List TPair).map TPair.d) []:=Rn;obtain ⟨d7,bb,e2⟩:=bd g
  refine X c d (fun e L a' w'=>∃ p az bx cb c3 bz cc c4 b0 cd c5 b1 ce c6 b2 cg c7,d7 = .go p∧ad.le az∧Env a' 102 (sl e [2,3] [])∧Inv bo ad bi az [.row (.slice bx p.1.length cb) 34 2 p.1.length c3,.row (.slice bz p.2.1.length cc) 34 2 p.2.1.length c4,.row (.slice b0 p.2.2.1.length cd) 61 6 p.2.2.1.length c5,.row (.slice b1 p.2.2.2.1.length ce) 34 2 p.2.2.2.1.length c6,.row (.slice b2 p.2.2.2.2.1.length cg) 9 1 p.2.2.2.2.1.length c7,.blk bs [.slice b2 p.2.2.2.2.1.length cg,.slice b1 p.2.2.2.1.length ce,.slice b0 p.2.2.1.length cd,.slice bz p.2.1.length cc,.slice bx p.1.length cb,i_ p.2.2.2.2.2.1] 26,nt L 6,.blk bj [.slice bh a9.T.length bk,i_ p.2.2.2.2.2.2.1,i_ p.2.2.2.2.2.2.2.1,i_ p.2.2.2.2.2.2.2.2.1,i_ p.2.2.2.2.2.2.2.2.2] 105] w'∧RL az 2 (p.1.map TPair.d) c3∧RL az 2 (p.2.1.map TPair.d) c4∧RL az 6 (p.2.2.1.map TTable.d) c5∧RL az 2 (p.2.2.2.1.map TPair.d) c6∧RL az 1 (p.2.2.2.2.1.map D.str) c7) ?_ ?_
  rotate_left
  · rintro a w ⟨p,az,bx,cb,c3,bz,cc,c4,b0,cd,c5,b1,ce,c6,b2,cg,c7,rfl,he,c,d,e9,fa,fb,fc,fd⟩
    have g:=Lg e2;refine T (S (G (L d c j (B q 5 j j j j) j fun a c=>W q 6 d c j j j j j j j j j j fun a w c d=>E (T ?_))))
    obtain ⟨gt,cw,d,eq⟩:=(d.front 4).giveR (xs:=p.2.2.2.2.1.map D.str) (by simp) fd
    obtain ⟨gu,cx,d,er⟩:=(d.front 3).giveR (xs:=p.2.2.2.1.map TPair.d) (by simp) (fc.m cw)
    obtain ⟨gv,cy,d,es⟩:=(d.front 2).giveR (xs:=p.2.2.1.map TTable.d) (by simp) (fb.m (cw.t cx))
    obtain ⟨gw,cz,d,et⟩:=(d.front 1).giveR (xs:=p.2.1.map TPair.d) (by simp) (fa.m ((cw.t cx).t cy))
    obtain ⟨gx,c0,d,eu⟩:=(d.front 0).giveR (xs:=p.1.map TPair.d) (by simp) (e9.m (((cw.t cx).t cy).t cz));refine V ?_;cases g
    refine U q c d (.cell 1 j j j j .nil) j ⟨_,_,_,j,(d.pick [2] (by decide) j),_,j,j,((TSchema.inv (x:=(TSchema.mk p.2.2.2.2.1 p.2.2.2.1 p.2.2.1 p.2.1 p.1 p.2.2.2.2.2.1))).2 ⟨b2,cg,b1,ce,b0,cd,bz,cc,bx,cb,j,(eq.m (((cx.t cy).t cz).t c0)),(er.m ((cy.t cz).t c0)),(es.m (cz.t c0)),(et.m c0),eu⟩)⟩
  
  refine O (Q c d (fun e L n' a' w'=>∃ n ao af aj aq ag ak ar ah al au an ap av ai am aw,whileL (ref06_P_Schema.b0 k a9) n' n=some d7∧ad.le ao∧Env a' 102 (sl e [0,2,3] [])∧Inv bo ad bi ao [.row (.slice af n.1.length aj) 34 2 n.1.length aq,.row (.slice ag n.2.1.length ak) 34 2 n.2.1.length ar,.row (.slice ah n.2.2.1.length al) 61 6 n.2.2.1.length au,.row (.slice an n.2.2.2.1.length ap) 34 2 n.2.2.2.1.length av,.row (.slice ai n.2.2.2.2.1.length am) 9 1 n.2.2.2.2.1.length aw,.blk bs [.slice ai n.2.2.2.2.1.length am,.slice an n.2.2.2.1.length ap,.slice ah n.2.2.1.length al,.slice ag n.2.1.length ak,.slice af n.1.length aj,i_ n.2.2.2.2.2.1] 26,nt L 6,.blk bj [.slice bh a9.T.length bk,i_ n.2.2.2.2.2.2.1,i_ n.2.2.2.2.2.2.2.1,i_ n.2.2.2.2.2.2.2.2.1,i_ n.2.2.2.2.2.2.2.2.2] 105] w'∧RL ao 2 (n.1.map TPair.d) aq∧RL ao 2 (n.2.1.map TPair.d) ar∧RL ao 6 (n.2.2.1.map TTable.d) au∧RL ao 2 (n.2.2.2.1.map TPair.d) av∧RL ao 1 (n.2.2.2.2.1.map D.str) aw) _ ⟨_,ad,none,0,[],none,0,[],none,0,[],none,0,[],none,0,[],bb,rf,c.kp j,d,e8,e7,e6,e5,e4⟩ ?_)
  rintro dh a w ⟨n,ao,af,aj,aq,ag,ak,ar,ah,al,au,an,ap,av,ai,am,aw,bb,aa,c,d,a1,a2,a3,a4,a5⟩
  rcases dh with _ | dh
  · cases bb
  obtain ⟨hg,g,bb⟩:=Wh bb;unfold ref06_P_Schema.b0 at g;refine S (S ?_);obtain ⟨d6,g,fe⟩:=bd g
  refine X c d (fun e L a' w'=>∃ ca,ao.le ca∧Env a' 102 (sl e [0,2,3] [(28,.bool d6)])∧Inv bo ad bi ca L w') ?_ ?_
  · refine Cd mixed (by kernel_rfl) d (Y q 3 c j fun a c=>Z c j (B q 7 j j j j) j fun a c=>Y q 2 c j fun a c=>?_)
    rcases Bo (decide (n.2.2.2.2.2.2.2.2.2=(0:Int))) with bu | bu;rotate_left
    · replace g:=cf bu g;have c:=c.tr (t:=15) j bu;refine Y q 13 c j fun a c=>Qe ?_;intro w d;refine T ?_;cases g;exact ⟨ao,rf,c.kp j,d⟩
    replace g:=ct bu g;have c:=c.tr (t:=15) j bu
    refine Y q 3 c j fun a c=>Z c j (B q 7 j j j j) j fun a c=>Y q 3 c j fun a c=>Z c j (B q 7 j j j j) j fun a c=>?_
    obtain ⟨hn,d5,g⟩:=bd g;obtain ⟨ha,hf,cs,fz,ft,e1⟩:=Sa (ab.m aa) (Go d5).1 (Go d5).2;obtain rfl:=TToken.inv.1 ft
    refine Z c j (I q fz j j j) j fun a c=>Y q 1 c j fun a c=>Z c j (Fg q e1 0 j j j j) j fun a c=>Y q 2 c j fun a c=>Qe ?_
    intro w d;refine T ?_;cases g;exact ⟨ao,rf,c.kp j,d⟩
  rintro a w ⟨ca,i,c,d⟩;have g:=fe;refine T (Cc (b:=d6) c j (fun df=>?_) (fun df=>?_));rotate_left
  · replace g:=cf df g;refine Ex (Xe (Xe (Xh (T ?_))));cases g;obtain rfl:=Wb bb
    exact ⟨_,ca,af,aj,aq,ag,ak,ar,ah,al,au,an,ap,av,ai,am,aw,j,(aa.t i),c.kp j,d,(a1.m i),(a2.m i),(a3.m i),(a4.m i),(a5.m i)⟩
  replace g:=ct df g;refine K (T (O (S (S (G (R q 1 c j fun a c=>?_))))));have d:=d.pick [7,0,1,2,3,4,5,6] (by decide) j;obtain ⟨gk,f1,g⟩:=bd g
  refine M 1 cl_61 d c j j (fun s=>(ref06_P_take.ok k) f1 s (ab.m (aa.t i))) j ?_;rintro a w _ ee _ ⟨rfl,rfl⟩ l d c;refine E (T ?_)
  obtain ⟨y,g,fk⟩:=bd g
  refine X c d (fun e L a' w'=>∃ a0 b3 ch co b4 ci cp b5 cj cq b6 ck cr b7 cl cu,ee.le a0∧Env a' 102 (sl e [0,2,3] [])∧Inv bo ad bi a0 [.blk bj [.slice bh a9.T.length bk,i_ y.2.2.2.2.2.1,i_ y.2.2.2.2.2.2.1,i_ y.2.2.2.2.2.2.2.1,i_ y.2.2.2.2.2.2.2.2.1] 105,.row (.slice b3 y.1.length ch) 34 2 y.1.length co,.row (.slice b4 y.2.1.length ci) 34 2 y.2.1.length cp,.row (.slice b5 y.2.2.1.length cj) 61 6 y.2.2.1.length cq,.row (.slice b6 y.2.2.2.1.length ck) 34 2 y.2.2.2.1.length cr,.row (.slice b7 y.2.2.2.2.1.length cl) 9 1 y.2.2.2.2.1.length cu,.blk bs [.slice b7 y.2.2.2.2.1.length cl,.slice b6 y.2.2.2.1.length ck,.slice b5 y.2.2.1.length cj,.slice b4 y.2.1.length ci,.slice b3 y.1.length ch,i_ y.2.2.2.2.2.2.2.2.2] 26,nt L 7] w'∧RL a0 2 (y.1.map TPair.d) co∧RL a0 2 (y.2.1.map TPair.d) cp∧RL a0 6 (y.2.2.1.map TTable.d) cq∧RL a0 2 (y.2.2.2.1.map TPair.d) cr∧RL a0 1 (y.2.2.2.2.1.map D.str) cu) ?_ ?_
  rotate_left
  · rintro a w ⟨a0,b3,ch,co,b4,ci,cp,b5,cj,cq,b6,ck,cr,b7,cl,cu,d4,c,d,ff,fg,fh,fi,fj⟩
    have g:=fk;refine T (G (R q 1 c j fun a c=>?_));obtain ⟨hi,f2,g⟩:=bd g
    refine M 1 cl_64 d c j j (fun s=>(ref06_P_must.ok k) f2 s (ab.m (((aa.t i).t l).t d4))) j ?_;rintro a w _ ef _ ⟨rfl,rfl⟩ bl d c
    refine E (xB (T ?_));cases g
    exact ⟨dh,Nat.lt_succ_self _,_,ef,b3,ch,co,b4,ci,cp,b5,cj,cq,b6,ck,cr,b7,cl,cu,bb,((((aa.t i).t l).t d4).t bl),c.kp j,(d.pick [1,2,3,4,5,6,7,0] (by decide) j),(ff.m bl),(fg.m bl),(fh.m bl),(fi.m bl),(fj.m bl)⟩
  refine Cc (b:=gk.1) c j (fun de=>?_) (fun de=>?_)
  · replace g:=ct de g
    refine Mx [6] [4,6] (.step 0 0 (.step 1 1 (.step 2 0 (.step 3 2 (.step 4 3 (.step 5 0 (.step 6 3 .nil))))))) mixed (by kernel_rfl) d (by decide) j fun w d hS=>H q 1 c j fun a c=>Dd hS c j j (Rw fun _=>(B q 0 j j j j)) j fun a c=>H q 1 c j fun a c=>Df j ?_
    obtain ⟨gl,f3,g⟩:=bd g;refine M 1 cl_62 d c j j (fun s=>(ref06_P_names.ok k) f3 s (ab.m ((aa.t i).t l))) j ?_
    rintro a w _ eg _ ⟨gs,hc,rfl,rfl,ev⟩ be d c;refine De (d.sw [6] (by decide) j be) fun hS=>Dl j ?_;obtain ⟨_,fu,g⟩:=bd g
    refine s_appG (f:=D.str) (xs:=n.2.2.2.2.1) (ys:=gl.1) ai_22 5 d c j j ev j j (Ll fu) j fun a w d9 ek ep c fm d=>?_
    have fl:=Ra (a5.m ((i.t l).t be)) fm
    refine Dn (H q 1 c j fun a c=>Dl j (W q 6 d c j j j j j j j j j j fun a w c d=>Dn (Dz (T ?_))));cases g
    exact ⟨eg,af,aj,aq,ag,ak,ar,ah,al,au,an,ap,av,d9,ek,(aw ++ ep),be,c.kp j,d,(a1.m ((i.t l).t be)),(a2.m ((i.t l).t be)),(a3.m ((i.t l).t be)),(a4.m ((i.t l).t be)),fl⟩
  replace g:=cf de g;refine S (G (R q 1 c j fun a c=>?_));obtain ⟨gm,f4,g⟩:=bd g
  refine M 1 cl_61 d c j j (fun s=>(ref06_P_take.ok k) f4 s (ab.m ((aa.t i).t l))) j ?_;rintro a w _ gy _ ⟨rfl,rfl⟩ m d c
  refine E (T (Cc (b:=gm.1) c j (fun dd=>?_) (fun dd=>?_)))
  · replace g:=ct dd g;refine S (G (R q 1 c j fun a c=>?_));obtain ⟨hj,f5,g⟩:=bd g
    refine M 1 cl_63 d c j j (fun s=>(ref06_P_name.ok k) f5 s (ab.m (((aa.t i).t l).t m))) j ?_;rintro a w _ c2 _ ⟨rfl,rfl⟩ ax d c
    refine R q 1 c j fun a c=>E (T (S (G (R q 1 c j fun a c=>E (T ?_)))));obtain ⟨d8,bc,e3⟩:=bd g
    refine X c d (fun e L a' w'=>∃ ay br b9 cn cv,d8 = .go ay∧c2.le br∧Env a' 102 (sl e [0,2,3] [])∧Inv bo ad bi br [.blk bj [.slice bh a9.T.length bk,i_ ay.2.2.2.1,i_ n.2.2.2.2.2.2.2.1,i_ ay.2.2.2.2.1,i_ ay.2.2.2.2.2] 105,nt L 1,nt L 2,nt L 3,.row (.slice b9 ay.1.length cn) 34 2 ay.1.length cv,nt L 5,.blk bs [.slice ai n.2.2.2.2.1.length am,.slice b9 ay.1.length cn,.slice ah n.2.2.1.length al,.slice ag n.2.1.length ak,.slice af n.1.length aj,i_ n.2.2.2.2.2.1] 26,nt L 7] w'∧RL br 2 (ay.1.map TPair.d) cv) ?_ ?_
    rotate_left
    · rintro a w ⟨ay,br,b9,cn,cv,rfl,bw,c,d,fn⟩;have g:=Lg e3;refine T ?_;cases g
      exact ⟨br,af,aj,aq,ag,ak,ar,ah,al,au,b9,cn,cv,ai,am,aw,((m.t ax).t bw),c.kp j,d,(a1.m ((((i.t l).t m).t ax).t bw)),(a2.m ((((i.t l).t m).t ax).t bw)),(a3.m ((((i.t l).t m).t ax).t bw)),fn,(a5.m ((((i.t l).t m).t ax).t bw))⟩
    
    refine O (Q c d (fun e L n' a' w'=>∃ ac bq b8 cm bt,whileL (ref06_P_Schema.b1 k a9 n) n' ac=some d8∧c2.le bq∧Env a' 102 (sl e [0,2,3] [(4,.string ac.2.1),(5,.bool ac.2.2.1)])∧Inv bo ad bi bq [.blk bj [.slice bh a9.T.length bk,i_ ac.2.2.2.1,i_ n.2.2.2.2.2.2.2.1,i_ ac.2.2.2.2.1,i_ ac.2.2.2.2.2] 105,nt L 1,nt L 2,nt L 3,.row (.slice b8 ac.1.length cm) 34 2 ac.1.length bt,nt L 5,.blk bs [.slice ai n.2.2.2.2.1.length am,.slice b8 ac.1.length cm,.slice ah n.2.2.1.length al,.slice ag n.2.1.length ak,.slice af n.1.length aj,i_ n.2.2.2.2.2.1] 26,nt L 7] w'∧RL bq 2 (ac.1.map TPair.d) bt) _ ⟨_,c2,an,ap,av,bc,rf,c.kp j,d,(a4.m (((i.t l).t m).t ax))⟩ ?_)
    rintro dj a w ⟨ac,bq,b8,cm,bt,bc,bv,c,d,dz⟩;rcases dj with _ | dj
    · cases bc
    obtain ⟨hh,g,bc⟩:=Wh bc;unfold ref06_P_Schema.b1 at g
    refine S (S (G (R q 1 c j fun a c=>E (T (Cc (b:=ac.2.2.1) c j (fun c8=>?_) (fun c8=>?_))))));rotate_left
    · replace g:=cf c8 g;refine Ex (Xe (Xe (Xh (T ?_))));cases g;obtain rfl:=Wb bc;exact ⟨_,bq,b8,cm,bt,j,bv,c.kp j,d,dz⟩
    replace g:=ct c8 g;refine K (T (O (S (G (R q 1 c j fun a c=>?_)))));obtain ⟨hk,f6,g⟩:=bd g
    refine M 1 cl_64 d c j j (fun s=>(ref06_P_must.ok k) f6 s (ab.m (((((aa.t i).t l).t m).t ax).t bv))) j ?_
    rintro a w _ gz _ ⟨rfl,rfl⟩ c1 d c;refine E (T (S (G (R q 1 c j fun a c=>?_))));obtain ⟨bp,f7,g⟩:=bd g
    refine M 1 cl_63 d c j j (fun s=>(ref06_P_name.ok k) f7 s (ab.m ((((((aa.t i).t l).t m).t ax).t bv).t c1))) j ?_
    rintro a w _ ds _ ⟨rfl,rfl⟩ dg d c
    refine R q 1 c j fun a c=>E (T (S (G (R q 1 c j fun a c=>L d c j (B q 6 j j j j) j fun a c=>R q 2 c j fun a c=>L d c j (Bd q j z_34 j j) j fun a c=>Bs ai_23 d c j j j j j fun a w g6 c d=>?_))))
    have d0:RL ds 2 ([(TPair.mk ac.2.1 bp.1)].map TPair.d) _:=(Rc (TPair.inv.2 j) j Rn);obtain ⟨_,fv,g⟩:=bd g
    refine Ao (f:=TPair.d) (xs:=ac.1) (ys:=[(TPair.mk ac.2.1 bp.1)]) ai_23 5 0 d c j j j d0 j j (Ll fv) j fun a w ea el c d=>?_
    have fo:=Ra (dz.m (c1.t dg)) d0
    refine R q 1 c j fun a c=>W q 7 d c j j j j j j j j j j fun a w c d=>E (T (S (G (R q 2 c j fun a c=>E (T (G (R q 1 c j fun a c=>?_)))))))
    obtain ⟨gn,f8,g⟩:=bd g
    refine Cl (S:=fun _ L' u=>L'=[]∧u = .bool gn) cl_65 d c j j (by obtain ⟨eh,f0,d,e0⟩:=(d.front 1).giveB;have ew:Pt eh (p_ bj) 105 Tref06_P.d (some (Tref06_P.mk a9.T bp.2.I n.2.2.2.2.2.2.2.1 bp.2.At bp.2.E)):=Pm (Tref06_P.inv.2 ⟨bh,bk,j,(ab.m ((((((((aa.t i).t l).t m).t ax).t bv).t c1).t dg).t f0))⟩) e0;exact ⟨_,(ref06_P_is.ok k) f8 d.pass0 ew⟩) (fun _ _ _ h=>h.2) j ?_
    intro a w d c;refine R q 1 c j fun a c=>E (xB (T ?_));cases g
    exact ⟨dj,Nat.lt_succ_self _,_,ds,ea,el,(bt ++ [.string ac.2.1,.string bp.1]),bc,((bv.t c1).t dg),c.kp j,(d.dropN 1 j),fo⟩
  replace g:=cf dd g;refine S (G (R q 1 c j fun a c=>?_));obtain ⟨go,f9,g⟩:=bd g
  refine M 1 cl_61 d c j j (fun s=>(ref06_P_take.ok k) f9 s (ab.m (((aa.t i).t l).t m))) j ?_;rintro a w _ g0 _ ⟨rfl,rfl⟩ o d c
  refine E (T (Cc (b:=go.1) c j (fun dc=>?_) (fun dc=>?_)))
  · replace g:=ct dc g
    refine Mx [6] [5,7] (.step 0 0 (.step 1 1 (.step 2 0 (.step 3 2 (.step 4 2 (.step 5 3 (.step 6 0 (.step 7 3 .nil)))))))) mixed (by kernel_rfl) d (by decide) j fun w d hS=>H q 1 c j fun a c=>Dd hS c j j (Rw fun _=>(B q 0 j j j j)) j fun a c=>H q 1 c j fun a c=>Df j ?_
    obtain ⟨ba,ga,g⟩:=bd g;refine M 1 cl_66 d c j j (fun s=>(ref06_P_table.ok k) ga s (ab.m ((((aa.t i).t l).t m).t o))) j ?_
    rintro a w _ dt _ ⟨hd,rfl,rfl,fp⟩ a6 d c;obtain ⟨dp,dw,dq,dx,dr,dy,rfl,ex,ey,ez⟩:=TTable.inv.1 fp
    refine De (d.sw [6] (by decide) j a6) fun hS=>Df j (Bs ai_24 d c j j j j j fun a w g7 c d=>?_)
    have d1:RL dt 6 ([ba.1].map TTable.d) _:=(Rc (TTable.inv.2 ⟨dp,dw,dq,dx,dr,dy,j,ex,ey,ez⟩) j Rn)
    refine De (d.sw [7] (by decide) j a6) fun hS=>Dl j ?_;obtain ⟨_,fw,g⟩:=bd g
    refine Ao (f:=TTable.d) (xs:=n.2.2.1) (ys:=[ba.1]) ai_24 4 0 d c j j j d1 j j (Ll fw) j fun a w eb em c d=>?_
    have fq:=Ra (a3.m ((((i.t l).t m).t o).t a6)) d1
    refine Dn (H q 1 c j fun a c=>Dl j (W q 7 d c j j j j j j j j j j fun a w c d=>Dn (Dz (T ?_))));cases g
    exact ⟨dt,af,aj,aq,ag,ak,ar,eb,em,(au ++ [.string ba.1.Name,.string ba.1.Rows,.slice dp ba.1.Cols.length dw,.slice dq ba.1.Key.length dx,.string ba.1.Hide,.slice dr ba.1.When.length dy]),an,ap,av,ai,am,aw,((m.t o).t a6),c.kp j,(d.dropN 1 j),(a1.m ((((i.t l).t m).t o).t a6)),(a2.m ((((i.t l).t m).t o).t a6)),fq,(a4.m ((((i.t l).t m).t o).t a6)),(a5.m ((((i.t l).t m).t o).t a6))⟩
  replace g:=cf dc g;refine S (G (R q 1 c j fun a c=>?_));obtain ⟨gp,gb,g⟩:=bd g
  refine M 1 cl_61 d c j j (fun s=>(ref06_P_take.ok k) gb s (ab.m ((((aa.t i).t l).t m).t o))) j ?_;rintro a w _ g1 _ ⟨rfl,rfl⟩ v d c
  refine E (T (Cc (b:=gp.1) c j (fun db=>?_) (fun db=>?_)))
  · replace g:=ct db g;refine S (G (R q 1 c j fun a c=>?_));obtain ⟨dk,gc,g⟩:=bd g
    refine M 1 cl_63 d c j j (fun s=>(ref06_P_name.ok k) gc s (ab.m (((((aa.t i).t l).t m).t o).t v))) j ?_
    rintro a w _ g2 _ ⟨rfl,rfl⟩ bf d c
    refine R q 1 c j fun a c=>E (T (Mx [6] [7,9] (.step 0 0 (.step 1 1 (.step 2 0 (.step 3 0 (.step 4 2 (.step 5 0 (.step 6 2 (.step 7 3 (.step 8 0 (.step 9 3 .nil)))))))))) mixed (by kernel_rfl) d (by decide) j fun w d hS=>H q 1 c j fun a c=>Dd hS c j j (Rw fun _=>(B q 0 j j j j)) j fun a c=>H q 2 c j fun a c=>Df j ?_))
    obtain ⟨dl,gd,g⟩:=bd g
    refine M 1 cl_63 d c j j (fun s=>(ref06_P_name.ok k) gd s (ab.m ((((((aa.t i).t l).t m).t o).t v).t bf))) j ?_
    rintro a w _ du _ ⟨rfl,rfl⟩ a7 d c
    refine De (d.sw [6] (by decide) j a7) fun hS=>Dr c j j (Bd q j z_34 j j) j fun a c=>Df j (Bs ai_23 d c j j j j j fun a w g8 c d=>?_)
    have d2:RL du 2 ([(TPair.mk dk.1 dl.1)].map TPair.d) _:=(Rc (TPair.inv.2 j) j Rn);refine De (d.sw [7] (by decide) j a7) fun hS=>Dl j ?_
    obtain ⟨_,fx,g⟩:=bd g;refine Ao (f:=TPair.d) (xs:=n.2.1) (ys:=[(TPair.mk dk.1 dl.1)]) ai_23 3 0 d c j j j d2 j j (Ll fx) j fun a w ec en c d=>?_
    have fr:=Ra (a2.m ((((((i.t l).t m).t o).t v).t bf).t a7)) d2
    refine Dn (H q 1 c j fun a c=>Dl j (W q 7 d c j j j j j j j j j j fun a w c d=>Dn (Dz (T ?_))));cases g
    exact ⟨du,af,aj,aq,ec,en,(ar ++ [.string dk.1,.string dl.1]),ah,al,au,an,ap,av,ai,am,aw,((((m.t o).t v).t bf).t a7),c.kp j,(d.dropN 1 j),(a1.m ((((((i.t l).t m).t o).t v).t bf).t a7)),fr,(a3.m ((((((i.t l).t m).t o).t v).t bf).t a7)),(a4.m ((((((i.t l).t m).t o).t v).t bf).t a7)),(a5.m ((((((i.t l).t m).t o).t v).t bf).t a7))⟩
  replace g:=cf db g;refine S (G (R q 1 c j fun a c=>?_));obtain ⟨gq,ge,g⟩:=bd g
  refine M 1 cl_61 d c j j (fun s=>(ref06_P_take.ok k) ge s (ab.m (((((aa.t i).t l).t m).t o).t v))) j ?_
  rintro a w _ g3 _ ⟨rfl,rfl⟩ z d c;refine E (T (Cc (b:=gq.1) c j (fun da=>?_) (fun da=>?_)))
  · replace g:=ct da g;refine S (G (R q 1 c j fun a c=>?_));obtain ⟨dm,gf,g⟩:=bd g
    refine M 1 cl_63 d c j j (fun s=>(ref06_P_name.ok k) gf s (ab.m ((((((aa.t i).t l).t m).t o).t v).t z))) j ?_
    rintro a w _ g4 _ ⟨rfl,rfl⟩ bg d c
    refine R q 1 c j fun a c=>E (T (Mx [6] [7,9] (.step 0 0 (.step 1 1 (.step 2 0 (.step 3 0 (.step 4 2 (.step 5 0 (.step 6 2 (.step 7 3 (.step 8 0 (.step 9 3 .nil)))))))))) mixed (by kernel_rfl) d (by decide) j fun w d hS=>H q 1 c j fun a c=>Dd hS c j j (Rw fun _=>(B q 0 j j j j)) j fun a c=>H q 2 c j fun a c=>Df j ?_))
    obtain ⟨dn,gg,g⟩:=bd g
    refine M 1 cl_63 d c j j (fun s=>(ref06_P_name.ok k) gg s (ab.m (((((((aa.t i).t l).t m).t o).t v).t z).t bg))) j ?_
    rintro a w _ dv _ ⟨rfl,rfl⟩ a8 d c
    refine De (d.sw [6] (by decide) j a8) fun hS=>Dr c j j (Bd q j z_34 j j) j fun a c=>Df j (Bs ai_23 d c j j j j j fun a w g9 c d=>?_)
    have d3:RL dv 2 ([(TPair.mk dm.1 dn.1)].map TPair.d) _:=(Rc (TPair.inv.2 j) j Rn);refine De (d.sw [7] (by decide) j a8) fun hS=>Dl j ?_
    obtain ⟨_,fy,g⟩:=bd g;refine Ao (f:=TPair.d) (xs:=n.1) (ys:=[(TPair.mk dm.1 dn.1)]) ai_23 2 0 d c j j j d3 j j (Ll fy) j fun a w ed eo c d=>?_
    have fs:=Ra (a1.m (((((((i.t l).t m).t o).t v).t z).t bg).t a8)) d3
    refine Dn (H q 1 c j fun a c=>Dl j (W q 7 d c j j j j j j j j j j fun a w c d=>Dn (Dz (T ?_))));cases g
    exact ⟨dv,ed,eo,(aq ++ [.string dm.1,.string dn.1]),ag,ak,ar,ah,al,au,an,ap,av,ai,am,aw,(((((m.t o).t v).t z).t bg).t a8),c.kp j,(d.dropN 1 j),fs,(a2.m (((((((i.t l).t m).t o).t v).t z).t bg).t a8)),(a3.m (((((((i.t l).t m).t o).t v).t z).t bg).t a8)),(a4.m (((((((i.t l).t m).t o).t v).t z).t bg).t a8)),(a5.m (((((((i.t l).t m).t o).t v).t z).t bg).t a8))⟩
  replace g:=cf da g;refine S (G (R q 1 c j fun a c=>?_));obtain ⟨gr,gh,g⟩:=bd g
  refine M 1 cl_61 d c j j (fun s=>(ref06_P_take.ok k) gh s (ab.m ((((((aa.t i).t l).t m).t o).t v).t z))) j ?_
  rintro a w _ g5 _ ⟨rfl,rfl⟩ ae d c;refine E (T (Cc (b:=gr.1) c j (fun c9=>?_) (fun c9=>?_)));rotate_left
  · replace g:=cf c9 g;refine G (R q 1 c j fun a c=>?_);obtain ⟨hm,gj,g⟩:=bd g
    refine M 1 cl_68 d c j j (fun s=>(ref06_P_bad.ok k) gj s (ab.m (((((((aa.t i).t l).t m).t o).t v).t z).t ae))) j ?_
    rintro a w _ ej _ ⟨rfl,rfl⟩ bn d c;refine E (T ?_);cases g
    exact ⟨ej,af,aj,aq,ag,ak,ar,ah,al,au,an,ap,av,ai,am,aw,(((((m.t o).t v).t z).t ae).t bn),c.kp j,d,(a1.m (((((((i.t l).t m).t o).t v).t z).t ae).t bn)),(a2.m (((((((i.t l).t m).t o).t v).t z).t ae).t bn)),(a3.m (((((((i.t l).t m).t o).t v).t z).t ae).t bn)),(a4.m (((((((i.t l).t m).t o).t v).t z).t ae).t bn)),(a5.m (((((((i.t l).t m).t o).t v).t z).t ae).t bn))⟩
  replace g:=ct c9 g;refine G (R q 1 c j fun a c=>?_);obtain ⟨hl,gi,g⟩:=bd g
  refine M 1 cl_67 d c j j (fun s=>(ref06_P_int.ok k) gi s (ab.m (((((((aa.t i).t l).t m).t o).t v).t z).t ae))) j ?_
  rintro a w _ ei _ ⟨rfl,rfl⟩ bm d c;refine R q 1 c j fun a c=>W q 6 d c j j j j j j j j j j fun a w c d=>E (T ?_);cases g
  exact ⟨ei,af,aj,aq,ag,ak,ar,ah,al,au,an,ap,av,ai,am,aw,(((((m.t o).t v).t z).t ae).t bm),c.kp j,d,(a1.m (((((((i.t l).t m).t o).t v).t z).t ae).t bm)),(a2.m (((((((i.t l).t m).t o).t v).t z).t ae).t bm)),(a3.m (((((((i.t l).t m).t o).t v).t z).t ae).t bm)),(a4.m (((((((i.t l).t m).t o).t v).t z).t ae).t bm)),(a5.m (((((((i.t l).t m).t o).t v).t z).t ae).t bm))⟩

theorem cl_50:Callable Tryz.prog 50:=⟨_,Tryz.func50,by kernel_rfl,by kernel_rfl⟩

def ref06_P_End.C (s:Tref06_P→Option (Int × Int × Tref06_P)):Prop:=∀ {b r},s b=some r→∀ {d c h f e g},Inv d c h c [.blk f [.slice e b.T.length g,i_ b.I,i_ b.Deep,i_ b.At,i_ b.E] 105] d→(Sl c e g 4 (b.T.map TToken.d))→Calls Tryz.prog 50 #[(P f)] d (Ret d c h fun G' L' v=>L'=[.blk f [.slice e b.T.length g,i_ b.I,i_ b.Deep,i_ r.2.2.At,i_ r.2.2.E] 105]∧v = .tuple ⟨[i_ r.1,i_ r.2.1]⟩)
end Go.Proofs.YtliaopbgkcdibaaGreat
