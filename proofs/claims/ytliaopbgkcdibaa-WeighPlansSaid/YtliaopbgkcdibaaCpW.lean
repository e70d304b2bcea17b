/- The functions, as plain Lean: each Go function with the same answers (none: it panics there, or the rounds are used up). Written by mk.py. -/
import Derived.Test.YtliaopbgkcdibaaCxF
set_option linter.unusedVariables false
set_option linter.unusedSimpArgs false
set_option maxRecDepth 100000
namespace Go.Proofs.Ytliaopbgkcdibaa
mutual
inductive TPlan where
  | mk (Kind : Int) (N : Int) (Kids : List TPlan) (E : List TNode) (Keys : List Int) (Aggs : List TGather) (Desc : List Bool) (Width : Int)
inductive TGather where
  | mk (Fn : ByteArray) (E : List TNode)
inductive TNode where
  | mk (Kind : Int) (N : Int) (S : ByteArray) (Kids : List TNode) (Plans : List TPlan)
end
def TPlan.Kind : TPlan → Int | .mk x _ _ _ _ _ _ _ => x
def TPlan.N : TPlan → Int | .mk _ x _ _ _ _ _ _ => x
def TPlan.Kids : TPlan → List TPlan | .mk _ _ x _ _ _ _ _ => x
def TPlan.E : TPlan → List TNode | .mk _ _ _ x _ _ _ _ => x
def TPlan.Keys : TPlan → List Int | .mk _ _ _ _ x _ _ _ => x
def TPlan.Aggs : TPlan → List TGather | .mk _ _ _ _ _ x _ _ => x
def TPlan.Desc : TPlan → List Bool | .mk _ _ _ _ _ _ x _ => x
def TPlan.Width : TPlan → Int | .mk _ _ _ _ _ _ _ x => x
def TGather.Fn : TGather → ByteArray | .mk x _ => x
def TGather.E : TGather → List TNode | .mk _ x => x
def TNode.Kind : TNode → Int | .mk x _ _ _ _ => x
def TNode.N : TNode → Int | .mk _ x _ _ _ => x
def TNode.S : TNode → ByteArray | .mk _ _ x _ _ => x
def TNode.Kids : TNode → List TNode | .mk _ _ _ x _ => x
def TNode.Plans : TNode → List TPlan | .mk _ _ _ _ x => x
structure Tref04_Cost where
  S : Int
  R : Int
  Bad : Bool

def law10_WeighPlan.b0 (k : Nat) (s_law10_WeighPlan : TPlan → Int → Option Int) (s_law10_weighNodes : (List TNode) → Int → Option Int) (p0 : TPlan) (p1 : Int) (s263 : Int × Int) : Option (Step Int (Int × Int)) :=
  (((bif decide (s263.2 < (p0.Kids.length : Int)) then some (decide (s263.1 < (1000 : Int))) else some false)).bind fun m289 => (bif m289 then ((getO p0.Kids s263.2).bind fun y317 => ((s_law10_WeighPlan y317 (w64 (p1 + (1 : Int)))).bind fun y335 => some (.next (w64 (s263.1 + y335), w64 (s263.2 + (1 : Int)))))) else some (.brk (s263.1, s263.2))))
def law10_WeighPlan.b1 (k : Nat) (s_law10_WeighPlan : TPlan → Int → Option Int) (s_law10_weighNodes : (List TNode) → Int → Option Int) (p0 : TPlan) (p1 : Int) (s120 : Int × Int) : Option (Step Int (Int × Int)) :=
  (((bif decide (s120.2 < (p0.Aggs.length : Int)) then some (decide (s120.1 < (1000 : Int))) else some false)).bind fun m357 => (bif m357 then ((getO p0.Aggs s120.2).bind fun y373 => ((s_law10_weighNodes y373.E (w64 (p1 + (1 : Int)))).bind fun y379 => some (.next (w64 ((w64 (s120.1 + (1 : Int))) + y379), w64 (s120.2 + (1 : Int)))))) else some (.brk (s120.1, s120.2))))
def law10_WeighPlan.F (k : Nat) (s_law10_WeighPlan : TPlan → Int → Option Int) (s_law10_weighNodes : (List TNode) → Int → Option Int) (p0 : TPlan) (p1 : Int) : Option (Int) :=
  (((bif decide ((60 : Int) < p1) then some true else (bif decide ((60 : Int) < (p0.Keys.length : Int)) then some true else some (decide ((60 : Int) < (p0.Desc.length : Int)))))).bind fun m23 => (bif m23 then some (1000 : Int) else ((s_law10_weighNodes p0.E (w64 (p1 + (1 : Int)))).bind fun y31 => ((whileL (law10_WeighPlan.b1 k s_law10_WeighPlan s_law10_weighNodes p0 p1) k (w64 ((1 : Int) + y31), (0 : Int))).bind (Lr.k (fun r => some r) (fun s125 => ((whileL (law10_WeighPlan.b0 k s_law10_WeighPlan s_law10_weighNodes p0 p1) k (s125.1, (0 : Int))).bind (Lr.k (fun r => some r) (fun s268 => some (min s268.1 (1000 : Int)))))))))))
def law10_weighNodes.b1 (k : Nat) (s_law10_WeighPlan : TPlan → Int → Option Int) (s_law10_weighNodes : (List TNode) → Int → Option Int) (y733 : TNode) (p1 : Int) (s945 : Int × Int) : Option (Step Int (Int × Int)) :=
  (((bif decide (s945.2 < (y733.Plans.length : Int)) then some (decide (s945.1 < (1000 : Int))) else some false)).bind fun m982 => (bif m982 then ((getO y733.Plans s945.2).bind fun y1021 => ((s_law10_WeighPlan y1021 (w64 (p1 + (1 : Int)))).bind fun y1039 => some (.next (w64 (s945.1 + y1039), w64 (s945.2 + (1 : Int)))))) else some (.brk (s945.1, s945.2))))
def law10_weighNodes.b0 (k : Nat) (s_law10_WeighPlan : TPlan → Int → Option Int) (s_law10_weighNodes : (List TNode) → Int → Option Int) (p0 : List TNode) (p1 : Int) (s699 : Int × Int) : Option (Step Int (Int × Int)) :=
  (((bif decide (s699.2 < (p0.length : Int)) then some (decide (s699.1 < (1000 : Int))) else some false)).bind fun m721 => (bif m721 then ((getO p0 s699.2).bind fun y733 => ((s_law10_weighNodes y733.Kids (w64 (p1 + (1 : Int)))).bind fun y742 => ((whileL (law10_weighNodes.b1 k s_law10_WeighPlan s_law10_weighNodes y733 p1) k (w64 ((w64 (s699.1 + (1 : Int))) + y742), (0 : Int))).bind (Lr.k (fun r => some (.ret r)) (fun s950 => some (.next (s950.1, w64 (s699.2 + (1 : Int))))))))) else some (.brk (s699.1, s699.2))))
def law10_weighNodes.F (k : Nat) (s_law10_WeighPlan : TPlan → Int → Option Int) (s_law10_weighNodes : (List TNode) → Int → Option Int) (p0 : List TNode) (p1 : Int) : Option (Int) :=
  (bif decide ((60 : Int) < p1) then some (1000 : Int) else ((whileL (law10_weighNodes.b0 k s_law10_WeighPlan s_law10_weighNodes p0 p1) k ((0 : Int), (0 : Int))).bind (Lr.k (fun r => some r) (fun s704 => some (min s704.1 (1000 : Int))))))
mutual
def law10_WeighPlan : Nat → TPlan → Int → Option Int
  | 0 => fun _ _ => none
  | k + 1 => law10_WeighPlan.F k (law10_WeighPlan k) (law10_weighNodes k)
def law10_weighNodes : Nat → (List TNode) → Int → Option Int
  | 0 => fun _ _ => none
  | k + 1 => law10_weighNodes.F k (law10_WeighPlan k) (law10_weighNodes k)
end
def weigh_kids.j0 (k : Nat) (m214 : Unit) : Option (Int) :=
  some (-1 : Int)
def weigh_kids.j1 (k : Nat) (m322 : Unit) : Option (Int) :=
  some (2 : Int)
def weigh_kids.j2 (k : Nat) (m376 : Unit) : Option (Int) :=
  some (1 : Int)
def weigh_kids (k : Nat) (p0 : Int) : Option (Int) :=
  (((bif decide (p0 = (1 : Int)) then some (decide (p0 = (1 : Int))) else (bif decide (p0 = (2 : Int)) then some (decide (p0 = (2 : Int))) else some (decide (p0 = (3 : Int)))))).bind fun m383 => (bif m383 then some (0 : Int) else (((bif decide (p0 = (4 : Int)) then some (decide (p0 = (4 : Int))) else (bif decide (p0 = (5 : Int)) then some (decide (p0 = (5 : Int))) else some (decide (p0 = (8 : Int)))))).bind fun m390 => (bif m390 then weigh_kids.j2 k () else (((bif decide (p0 = (9 : Int)) then some (decide (p0 = (9 : Int))) else (bif decide (p0 = (10 : Int)) then some (decide (p0 = (10 : Int))) else some (decide (p0 = (11 : Int)))))).bind fun m397 => (bif m397 then weigh_kids.j2 k () else (((bif decide (p0 = (6 : Int)) then some (decide (p0 = (6 : Int))) else (bif decide (p0 = (7 : Int)) then some (decide (p0 = (7 : Int))) else some (decide (p0 = (13 : Int)))))).bind fun m404 => (bif m404 then weigh_kids.j1 k () else (((bif decide (p0 = (12 : Int)) then some (decide (p0 = (12 : Int))) else (bif decide (p0 = (14 : Int)) then some (decide (p0 = (14 : Int))) else some (decide (p0 = (15 : Int)))))).bind fun m411 => (bif m411 then weigh_kids.j1 k () else weigh_kids.j0 k ()))))))))))
def plane_At (k : Nat) (p0 : Int) (p1 : Int) : Option ((Nat × Nat) × Int) :=
  (((bif decide (p0 < (0 : Int)) then some true else (bif decide ((1099511627776 : Int) < p0) then some true else (bif decide (p1 < (0 : Int)) then some true else some (decide ((1099511627776 : Int) < p1)))))).bind fun m6 => (bif m6 then some (((0 : Nat), (0 : Nat)), (2 : Int)) else some ((fofInt p0, fofInt p1), (0 : Int))))
def weigh_cost (k : Nat) (p0 : Int) (p1 : Int) : Option ((Nat × Nat)) :=
  ((plane_At k (max (0 : Int) (min p0 (1099511627776 : Int))) (max (0 : Int) (min p1 (1099511627776 : Int)))).bind fun y3 => some y3.1)
def weigh_size (k : Nat) (p0 : List Int) (p1 : Int) : Option (Int) :=
  (((bif decide (p1 < (0 : Int)) then some true else some (decide ((p0.length : Int) ≤ p1)))).bind fun m7 => (bif m7 then some (0 : Int) else ((getO p0 p1).bind fun y15 => some (max (0 : Int) (min y15 (100 : Int))))))
def math_Trunc (k : Nat) (p0 : Nat) : Option (Nat) :=
  ((ftrunc p0).bind fun z1 => some z1)
def plane_whole (k : Nat) (p0 : Nat) : Option (Bool) :=
  (((bif fge p0 (0 : Nat) then (bif fle p0 (4787326403894837248 : Nat) then ((math_Trunc k p0).bind fun y15 => some (feq p0 y15)) else some false) else some false)).bind fun m10 => some m10)
def plane_Right (k : Nat) (p0 : (Nat × Nat)) : Option (Bool) :=
  ((((plane_whole k p0.1).bind fun y16 => (bif y16 then ((plane_whole k p0.2).bind fun y21 => some y21) else some false))).bind fun m13 => some m13)
def plane_Rows (k : Nat) (p0 : (Nat × Nat)) : Option (Int) :=
  ((plane_Right k p0).bind fun y2 => (bif !y2 then some (0 : Int) else ((ftoInt p0.2).bind fun z7 => some z7)))
def weigh_rowsOf (k : Nat) (p0 : (Nat × Nat)) : Option ((Nat × Nat)) :=
  ((plane_Rows k p0).bind fun y3 => ((plane_Rows k p0).bind fun y7 => ((weigh_cost k y3 y7).bind fun y11 => some y11)))
def plane_both (k : Nat) (p0 : (Nat × Nat)) (p1 : (Nat × Nat)) : Option (Bool) :=
  ((((plane_Right k p0).bind fun y16 => (bif y16 then ((plane_Right k p1).bind fun y21 => some y21) else some false))).bind fun m13 => some m13)
def plane_cut (k : Nat) (p0 : Nat) : Option (Nat) :=
  ((fmin p0 (4787326403894837248 : Nat)).bind fun z1 => some z1)
def plane_Beside (k : Nat) (p0 : (Nat × Nat)) (p1 : (Nat × Nat)) : Option ((Nat × Nat)) :=
  ((plane_both k p0 p1).bind fun y2 => (bif !y2 then some ((0 : Nat), (0 : Nat)) else ((cadd p0 p1).bind fun z6 => ((plane_cut k z6.1).bind fun y8 => ((plane_cut k z6.2).bind fun y12 => some (y8, y12))))))
def plane_Nest (k : Nat) (p0 : (Nat × Nat)) (p1 : (Nat × Nat)) : Option ((Nat × Nat)) :=
  ((plane_both k p0 p1).bind fun y2 => (bif !y2 then some ((0 : Nat), (0 : Nat)) else ((fmul p0.2 p1.1).bind fun z6 => ((plane_cut k z6).bind fun y8 => ((fmul p0.2 p1.2).bind fun z12 => ((plane_cut k z12).bind fun y14 => ((fadd p0.1 y8).bind fun z18 => ((plane_cut k z18).bind fun y20 => some (y20, y14)))))))))
def plane_Worst (k : Nat) (p0 : (Nat × Nat)) (p1 : (Nat × Nat)) : Option ((Nat × Nat)) :=
  ((plane_both k p0 p1).bind fun y2 => (bif !y2 then some ((0 : Nat), (0 : Nat)) else ((fmax p0.1 p1.1).bind fun z6 => ((fmax p0.2 p1.2).bind fun z8 => some (z6, z8)))))
def weigh_both (k : Nat) (p0 : Int) (p1 : (Nat × Nat)) (p2 : (Nat × Nat)) : Option ((Nat × Nat)) :=
  ((plane_Nest k p1 p2).bind fun y2 => ((plane_Rows k y2).bind fun y6 => (bif decide (p0 = (6 : Int)) then ((weigh_cost k y6 y6).bind fun y10 => some y10) else (bif decide (p0 = (7 : Int)) then ((weigh_cost k (1 : Int) (1 : Int)).bind fun y15 => ((plane_Worst k p2 y15).bind fun y19 => ((plane_Nest k p1 y19).bind fun y23 => ((plane_Rows k y23).bind fun y27 => ((weigh_cost k y6 y27).bind fun y31 => some y31))))) else (((bif decide (p0 = (14 : Int)) then some (decide (p0 = (14 : Int))) else some (decide (p0 = (15 : Int))))).bind fun m38 => (bif m38 then ((plane_Beside k p1 p2).bind fun y43 => ((plane_Rows k y43).bind fun y47 => ((plane_Rows k p1).bind fun y51 => ((weigh_cost k y47 y51).bind fun y55 => some y55)))) else ((plane_Beside k p1 p2).bind fun y59 => some y59)))))))
def plane_Steps (k : Nat) (p0 : (Nat × Nat)) : Option (Int) :=
  ((plane_Right k p0).bind fun y2 => (bif !y2 then some (0 : Int) else ((ftoInt p0.1).bind fun z7 => some z7)))
def weigh_nodes.b0 (k : Nat) (i141 : Nat) (x142 : TGather) (s123 : (List TNode)) : Option (Step (List TNode) (List TNode)) :=
  ((lim (s123.length + x142.E.length)).bind fun _ => some (.next (s123 ++ x142.E)))
def weigh_nodes (k : Nat) (p0 : TPlan) : Option ((List TNode)) :=
  ((lim (([] : List TNode).length + p0.E.length)).bind fun _ => ((forL (weigh_nodes.b0 k) 0 p0.Aggs (([] : List TNode) ++ p0.E)).bind (Lr.k (fun r => some r) (fun s128 => some s128))))
def plane_Then (k : Nat) (p0 : (Nat × Nat)) (p1 : (Nat × Nat)) : Option ((Nat × Nat)) :=
  ((plane_both k p0 p1).bind fun y2 => (bif !y2 then some ((0 : Nat), (0 : Nat)) else ((fadd p0.1 p1.1).bind fun z6 => ((plane_cut k z6).bind fun y8 => some (y8, p1.2)))))
def weigh_Plan.F (k : Nat) (s_weigh_Plan : (List Int) → TPlan → Option (Nat × Nat)) (s_weigh_within : (List Int) → (List TNode) → Option (Nat × Nat)) (p0 : List Int) (p1 : TPlan) : Option ((Nat × Nat)) :=
  ((weigh_kids k p1.Kind).bind fun y28 => (bif !decide ((p1.Kids.length : Int) = y28) then some ((0 : Nat), (0 : Nat)) else (bif decide (p1.Kind = (1 : Int)) then ((weigh_cost k (1 : Int) (1 : Int)).bind fun y32 => some y32) else (((bif decide (p1.Kind = (2 : Int)) then some (decide (p1.Kind = (2 : Int))) else some (decide (p1.Kind = (3 : Int))))).bind fun m39 => (bif m39 then ((weigh_size k p0 p1.N).bind fun y46 => ((weigh_size k p0 p1.N).bind fun y49 => ((weigh_cost k y46 y49).bind fun y52 => some y52))) else ((getO p1.Kids (0 : Int)).bind fun y79 => ((s_weigh_Plan p0 y79).bind fun y97 => ((weigh_rowsOf k y97).bind fun y101 => (((bif decide ((p1.Kids.length : Int) = (2 : Int)) then ((getO p1.Kids (1 : Int)).bind fun y309 => ((s_weigh_Plan p0 y309).bind fun y327 => ((weigh_rowsOf k y97).bind fun y332 => ((weigh_rowsOf k y327).bind fun y335 => ((weigh_both k p1.Kind y332 y335).bind fun y338 => ((plane_Beside k y97 y327).bind fun y341 => some (y341, y338))))))) else some (y97, y101))).bind fun m173 => ((plane_Steps k m173.2).bind fun y177 => (((bif decide (p1.Kind = (11 : Int)) then ((weigh_cost k y177 (min y177 p1.N)).bind fun y270 => some y270) else (bif decide (p1.Kind = (8 : Int)) then (bif decide ((p1.Keys.length : Int) = (0 : Int)) then ((weigh_cost k y177 (1 : Int)).bind fun y278 => some y278) else some m173.2) else some m173.2))).bind fun m200 => ((weigh_cost k (0 : Int) y177).bind fun y242 => ((weigh_nodes k p1).bind fun y246 => ((s_weigh_within p0 y246).bind fun y253 => ((plane_Nest k y242 y253).bind fun y257 => ((plane_Then k m173.1 y257).bind fun y261 => ((plane_Then k y261 m200).bind fun y265 => some y265)))))))))))))))))
def weigh_within.b1 (k : Nat) (s_weigh_Plan : (List Int) → TPlan → Option (Nat × Nat)) (s_weigh_within : (List Int) → (List TNode) → Option (Nat × Nat)) (p0 : List Int) (i726 : Nat) (x727 : TPlan) (s703 : (Nat × Nat)) : Option (Step (Nat × Nat) (Nat × Nat)) :=
  ((s_weigh_Plan p0 x727).bind fun y786 => ((plane_Beside k s703 y786).bind fun y790 => some (.next y790)))
def weigh_within.b0 (k : Nat) (s_weigh_Plan : (List Int) → TPlan → Option (Nat × Nat)) (s_weigh_within : (List Int) → (List TNode) → Option (Nat × Nat)) (p0 : List Int) (i538 : Nat) (x539 : TNode) (s518 : (Nat × Nat)) : Option (Step (Nat × Nat) (Nat × Nat)) :=
  ((forL (weigh_within.b1 k s_weigh_Plan s_weigh_within p0) 0 x539.Plans s518).bind (Lr.k (fun r => some (.ret r)) (fun s708 => ((s_weigh_within p0 x539.Kids).bind fun y716 => ((plane_Beside k s708 y716).bind fun y720 => some (.next y720))))))
def weigh_within.F (k : Nat) (s_weigh_Plan : (List Int) → TPlan → Option (Nat × Nat)) (s_weigh_within : (List Int) → (List TNode) → Option (Nat × Nat)) (p0 : List Int) (p1 : List TNode) : Option ((Nat × Nat)) :=
  ((forL (weigh_within.b0 k s_weigh_Plan s_weigh_within p0) 0 p1 ((0 : Nat), (0 : Nat))).bind (Lr.k (fun r => some r) (fun s523 => ((plane_Steps k s523).bind fun y528 => ((weigh_cost k y528 (0 : Int)).bind fun y532 => some y532)))))
mutual
def weigh_Plan : Nat → (List Int) → TPlan → Option (Nat × Nat)
  | 0 => fun _ _ => none
  | k + 1 => weigh_Plan.F k (weigh_Plan k) (weigh_within k)
def weigh_within : Nat → (List Int) → (List TNode) → Option (Nat × Nat)
  | 0 => fun _ _ => none
  | k + 1 => weigh_within.F k (weigh_Plan k) (weigh_within k)
end
def law21_alive (k : Nat) : Option (Bool) :=
  ((weigh_Plan k ([(10 : Int), (5 : Int)]) (TPlan.mk (6 : Int) (0 : Int) ([(TPlan.mk (2 : Int) (0 : Int) [] [] [] [] [] (0 : Int)), (TPlan.mk (2 : Int) (1 : Int) [] [] [] [] [] (0 : Int))]) [] [] [] [] (0 : Int))).bind fun y31 => some (ceq y31 ((4634274385308418048 : Nat), (4632233691727265792 : Nat))))
def law04_Point (k : Nat) (p0 : Tref04_Cost) : Option ((Nat × Nat)) :=
  (bif p0.Bad then some ((0 : Nat), (0 : Nat)) else some (fofInt p0.S, fofInt p0.R))
def ref21_arity (k : Nat) (p0 : Int) : Option (Int) :=
  (((bif decide ((1 : Int) ≤ p0) then some (decide (p0 ≤ (3 : Int))) else some false)).bind fun m4 => (bif m4 then some (0 : Int) else (((bif decide (p0 = (4 : Int)) then some true else (bif decide (p0 = (5 : Int)) then some true else (bif decide ((8 : Int) ≤ p0) then some (decide (p0 ≤ (11 : Int))) else some false)))).bind fun m12 => (bif m12 then some (1 : Int) else (((bif decide (p0 = (6 : Int)) then some true else (bif decide (p0 = (7 : Int)) then some true else (bif decide ((12 : Int) ≤ p0) then some (decide (p0 ≤ (15 : Int))) else some false)))).bind fun m20 => (bif m20 then some (2 : Int) else some (-1 : Int)))))))
def ref21_add (k : Nat) (p0 : Int) (p1 : Int) : Option (Int) :=
  (bif decide ((1099511627776 : Int) < (w64 (p0 + p1))) then some (1099511627776 : Int) else some (w64 (p0 + p1)))
def ref21_times (k : Nat) (p0 : Int) (p1 : Int) : Option (Int) :=
  (((bif decide (p0 = (0 : Int)) then some true else some (decide (p1 = (0 : Int))))).bind fun m4 => (bif m4 then some (0 : Int) else ((quoO .i64 (1099511627776 : Int) p0).bind fun z8 => (bif decide (z8 < p1) then some (1099511627776 : Int) else some (w64 (p0 * p1))))))
def ref21_Plan.b0 (k : Nat) (s_ref21_Plan : (List Int) → TPlan → Option Tref04_Cost) (s_ref21_inside : (List Int) → (List TNode) → Option Int) (p0 : List Int) (i397 : Nat) (x398 : TGather) (s371 : Int) : Option (Step Tref04_Cost Int) :=
  ((s_ref21_inside p0 x398.E).bind fun y426 => ((ref21_add k s371 y426).bind fun y430 => some (.next y430)))
def ref21_Plan.F (k : Nat) (s_ref21_Plan : (List Int) → TPlan → Option Tref04_Cost) (s_ref21_inside : (List Int) → (List TNode) → Option Int) (p0 : List Int) (p1 : TPlan) : Option (Tref04_Cost) :=
  ((ref21_arity k p1.Kind).bind fun y30 => (bif !decide ((p1.Kids.length : Int) = y30) then some (Tref04_Cost.mk (0 : Int) (0 : Int) false) else (bif decide (p1.Kind = (1 : Int)) then some (Tref04_Cost.mk (1 : Int) (1 : Int) false) else (bif decide (p1.Kind ≤ (3 : Int)) then (((bif decide ((0 : Int) ≤ p1.N) then some (decide (p1.N < (p0.length : Int))) else some false)).bind fun m40 => (((bif m40 then ((getO p0 p1.N).bind fun y78 => some y78) else some ((0 : Int)))).bind fun m55 => (((bif decide (m55 < (0 : Int)) then some ((0 : Int)) else some m55)).bind fun m61 => (((bif decide ((100 : Int) < m61) then some ((100 : Int)) else some m61)).bind fun m67 => some (Tref04_Cost.mk m67 m67 false))))) else ((getO p1.Kids (0 : Int)).bind fun y108 => ((s_ref21_Plan p0 y108).bind fun y126 => ((ref21_arity k p1.Kind).bind fun y137 => (((bif decide (y137 = (2 : Int)) then ((getO p1.Kids (1 : Int)).bind fun y469 => ((s_ref21_Plan p0 y469).bind fun y487 => ((ref21_add k y126.S y487.S).bind fun y495 => ((ref21_add k y126.R y487.R).bind fun y502 => (((bif decide (p1.Kind = (6 : Int)) then some true else some (decide (p1.Kind = (7 : Int))))).bind fun m510 => (((bif m510 then ((ref21_times k y126.R y487.R).bind fun y550 => some (y550, y550)) else some (y502, y502))).bind fun m524 => (((bif decide (p1.Kind = (7 : Int)) then some (decide (y487.R = (0 : Int))) else some false)).bind fun m531 => (((bif m531 then some y126.R else some m524.2)).bind fun m538 => (bif decide ((14 : Int) ≤ p1.Kind) then some (y495, m524.1, y126.R) else some (y495, m524.1, m538)))))))))) else some (y126.S, y126.R, y126.R))).bind fun m258 => (((bif decide (p1.Kind = (11 : Int)) then some (decide (p1.N < m258.2.2)) else some false)).bind fun m265 => (((bif m265 then (bif decide (p1.N < (0 : Int)) then some ((0 : Int)) else some p1.N) else some m258.2.2)).bind fun m273 => (((bif decide (p1.Kind = (8 : Int)) then some (decide ((p1.Keys.length : Int) = (0 : Int))) else some false)).bind fun m280 => (((bif m280 then some ((1 : Int)) else some m273)).bind fun m286 => ((s_ref21_inside p0 p1.E).bind fun y294 => ((forL (ref21_Plan.b0 k s_ref21_Plan s_ref21_inside p0) 0 p1.Aggs y294).bind (Lr.k (fun r => some r) (fun s376 => ((ref21_times k m258.2.1 s376).bind fun y383 => ((ref21_add k m258.1 y383).bind fun y387 => ((ref21_add k y387 m258.2.1).bind fun y391 => some (Tref04_Cost.mk y391 m286 false))))))))))))))))))))
def ref21_inside.b1 (k : Nat) (s_ref21_Plan : (List Int) → TPlan → Option Tref04_Cost) (s_ref21_inside : (List Int) → (List TNode) → Option Int) (x630 : TNode) (p0 : List Int) (s811 : Int × Int) : Option (Step Int (Int × Int)) :=
  (bif decide (s811.2 < (x630.Plans.length : Int)) then ((getO x630.Plans s811.2).bind fun y907 => ((s_ref21_Plan p0 y907).bind fun y925 => ((ref21_add k s811.1 y925.S).bind fun y930 => some (.next (y930, w64 (s811.2 + (1 : Int))))))) else some (.brk (s811.1, s811.2)))
def ref21_inside.b0 (k : Nat) (s_ref21_Plan : (List Int) → TPlan → Option Tref04_Cost) (s_ref21_inside : (List Int) → (List TNode) → Option Int) (p0 : List Int) (i629 : Nat) (x630 : TNode) (s618 : Int) : Option (Step Int Int) :=
  ((whileL (ref21_inside.b1 k s_ref21_Plan s_ref21_inside x630 p0) k (s618, (0 : Int))).bind (Lr.k (fun r => some (.ret r)) (fun s816 => ((s_ref21_inside p0 x630.Kids).bind fun y838 => ((ref21_add k s816.1 y838).bind fun y842 => some (.next y842))))))
def ref21_inside.F (k : Nat) (s_ref21_Plan : (List Int) → TPlan → Option Tref04_Cost) (s_ref21_inside : (List Int) → (List TNode) → Option Int) (p0 : List Int) (p1 : List TNode) : Option (Int) :=
  ((forL (ref21_inside.b0 k s_ref21_Plan s_ref21_inside p0) 0 p1 (0 : Int)).bind (Lr.k (fun r => some r) (fun s623 => some s623)))
mutual
def ref21_Plan : Nat → (List Int) → TPlan → Option Tref04_Cost
  | 0 => fun _ _ => none
  | k + 1 => ref21_Plan.F k (ref21_Plan k) (ref21_inside k)
def ref21_inside : Nat → (List Int) → (List TNode) → Option Int
  | 0 => fun _ _ => none
  | k + 1 => ref21_inside.F k (ref21_Plan k) (ref21_inside k)
end
def law21_WeighPlans (k : Nat) (p0 : List Int) (p1 : TPlan) : Option (Bool) :=
  ((((law10_WeighPlan k p1 (0 : Int)).bind fun y136 => (bif decide ((300 : Int) < y136) then some true else some (decide ((60 : Int) < (p0.length : Int)))))).bind fun m46 => (bif m46 then ((law21_alive k ).bind fun y50 => some y50) else ((weigh_Plan k p0 p1).bind fun y70 => ((((ref21_Plan k p0 p1).bind fun y116 => ((law04_Point k y116).bind fun y121 => (bif ceq y70 y121 then ((plane_Right k y70).bind fun y126 => (bif y126 then ((law21_alive k ).bind fun y131 => some y131) else some false)) else some false)))).bind fun m113 => some m113))))
def plane_Within (k : Nat) (p0 : (Nat × Nat)) (p1 : (Nat × Nat)) : Option (Bool) :=
  ((((plane_both k p0 p1).bind fun y13 => (bif y13 then (bif fle p0.1 p1.1 then some (fle p0.2 p1.2) else some false) else some false))).bind fun m10 => some m10)
def law21_WeighMore (k : Nat) (p0 : List Int) (p1 : TPlan) (p2 : Int) (p3 : Int) : Option (Bool) :=
  ((((law10_WeighPlan k p1 (0 : Int)).bind fun y162 => (bif decide ((300 : Int) < y162) then some true else (bif decide ((60 : Int) < (p0.length : Int)) then some true else some (decide ((p0.length : Int) = (0 : Int))))))).bind fun m47 => (bif m47 then ((law21_alive k ).bind fun y51 => some y51) else ((remO p2 (p0.length : Int)).bind fun z57 => ((remO (w64 (z57 + (p0.length : Int))) (p0.length : Int)).bind fun z59 => ((lim (([] : List Int).length + p0.length)).bind fun _ => ((getO p0 z59).bind fun y79 => ((getO (([] : List Int) ++ p0) z59).bind fun y82 => ((((weigh_Plan k p0 p1).bind fun y148 => ((weigh_Plan k (setO (([] : List Int) ++ p0) z59 (max y79 p3)) p1).bind fun y151 => ((plane_Within k y148 y151).bind fun y154 => (bif y154 then ((law21_alive k ).bind fun y158 => some y158) else some false))))).bind fun m145 => some m145))))))))

theorem law10_WeighPlan.b0.mono (k : Nat) {s_law10_WeighPlan s'_law10_WeighPlan : TPlan → Int → Option Int} (hm_law10_WeighPlan : ∀ x0 x1, LeO (s_law10_WeighPlan x0 x1) (s'_law10_WeighPlan x0 x1)) {s_law10_weighNodes s'_law10_weighNodes : (List TNode) → Int → Option Int} (hm_law10_weighNodes : ∀ x0 x1, LeO (s_law10_weighNodes x0 x1) (s'_law10_weighNodes x0 x1)) (p0 : TPlan) (p1 : Int) (s263 : Int × Int) : LeO (law10_WeighPlan.b0 k s_law10_WeighPlan s_law10_weighNodes p0 p1 s263) (law10_WeighPlan.b0 (k + 1) s'_law10_WeighPlan s'_law10_weighNodes p0 p1 s263) := by
  unfold law10_WeighPlan.b0
  repeat' (with_reducible first
    | assumption
    | refine LeO.bind ?_ (fun _ => ?_)
    | refine LeO.cond ?_ ?_
    | refine LeO.optE ?_ (fun _ => ?_) _
    | refine LeO.lrk (fun _ => ?_) (fun _ => ?_) _
    | refine LeO.forL (fun _ _ _ => ?_) _ _ _
    | refine LeO.whileL (fun _ => ?_) _ _
    | exact hm_law10_WeighPlan _ _
    | exact hm_law10_weighNodes _ _
    | exact LeO.refl _)
theorem law10_WeighPlan.b1.mono (k : Nat) {s_law10_WeighPlan s'_law10_WeighPlan : TPlan → Int → Option Int} (hm_law10_WeighPlan : ∀ x0 x1, LeO (s_law10_WeighPlan x0 x1) (s'_law10_WeighPlan x0 x1)) {s_law10_weighNodes s'_law10_weighNodes : (List TNode) → Int → Option Int} (hm_law10_weighNodes : ∀ x0 x1, LeO (s_law10_weighNodes x0 x1) (s'_law10_weighNodes x0 x1)) (p0 : TPlan) (p1 : Int) (s120 : Int × Int) : LeO (law10_WeighPlan.b1 k s_law10_WeighPlan s_law10_weighNodes p0 p1 s120) (law10_WeighPlan.b1 (k + 1) s'_law10_WeighPlan s'_law10_weighNodes p0 p1 s120) := by
  unfold law10_WeighPlan.b1
  repeat' (with_reducible first
    | assumption
    | refine LeO.bind ?_ (fun _ => ?_)
    | refine LeO.cond ?_ ?_
    | refine LeO.optE ?_ (fun _ => ?_) _
    | refine LeO.lrk (fun _ => ?_) (fun _ => ?_) _
    | refine LeO.forL (fun _ _ _ => ?_) _ _ _
    | refine LeO.whileL (fun _ => ?_) _ _
    | exact hm_law10_WeighPlan _ _
    | exact hm_law10_weighNodes _ _
    | exact law10_WeighPlan.b0.mono k hm_law10_WeighPlan hm_law10_weighNodes _ _ _
    | exact LeO.refl _)
theorem law10_WeighPlan.monoF (k : Nat) {s_law10_WeighPlan s'_law10_WeighPlan : TPlan → Int → Option Int} (hm_law10_WeighPlan : ∀ x0 x1, LeO (s_law10_WeighPlan x0 x1) (s'_law10_WeighPlan x0 x1)) {s_law10_weighNodes s'_law10_weighNodes : (List TNode) → Int → Option Int} (hm_law10_weighNodes : ∀ x0 x1, LeO (s_law10_weighNodes x0 x1) (s'_law10_weighNodes x0 x1)) (p0 : TPlan) (p1 : Int) : LeO (law10_WeighPlan.F k s_law10_WeighPlan s_law10_weighNodes p0 p1) (law10_WeighPlan.F (k + 1) s'_law10_WeighPlan s'_law10_weighNodes p0 p1) := by
  unfold law10_WeighPlan.F
  repeat' (with_reducible first
    | assumption
    | refine LeO.bind ?_ (fun _ => ?_)
    | refine LeO.cond ?_ ?_
    | refine LeO.optE ?_ (fun _ => ?_) _
    | refine LeO.lrk (fun _ => ?_) (fun _ => ?_) _
    | refine LeO.forL (fun _ _ _ => ?_) _ _ _
    | refine LeO.whileL (fun _ => ?_) _ _
    | exact hm_law10_WeighPlan _ _
    | exact hm_law10_weighNodes _ _
    | exact law10_WeighPlan.b0.mono k hm_law10_WeighPlan hm_law10_weighNodes _ _ _
    | exact law10_WeighPlan.b1.mono k hm_law10_WeighPlan hm_law10_weighNodes _ _ _
    | exact LeO.refl _)
theorem law10_weighNodes.b1.mono (k : Nat) {s_law10_WeighPlan s'_law10_WeighPlan : TPlan → Int → Option Int} (hm_law10_WeighPlan : ∀ x0 x1, LeO (s_law10_WeighPlan x0 x1) (s'_law10_WeighPlan x0 x1)) {s_law10_weighNodes s'_law10_weighNodes : (List TNode) → Int → Option Int} (hm_law10_weighNodes : ∀ x0 x1, LeO (s_law10_weighNodes x0 x1) (s'_law10_weighNodes x0 x1)) (y733 : TNode) (p1 : Int) (s945 : Int × Int) : LeO (law10_weighNodes.b1 k s_law10_WeighPlan s_law10_weighNodes y733 p1 s945) (law10_weighNodes.b1 (k + 1) s'_law10_WeighPlan s'_law10_weighNodes y733 p1 s945) := by
  unfold law10_weighNodes.b1
  repeat' (with_reducible first
    | assumption
    | refine LeO.bind ?_ (fun _ => ?_)
    | refine LeO.cond ?_ ?_
    | refine LeO.optE ?_ (fun _ => ?_) _
    | refine LeO.lrk (fun _ => ?_) (fun _ => ?_) _
    | refine LeO.forL (fun _ _ _ => ?_) _ _ _
    | refine LeO.whileL (fun _ => ?_) _ _
    | exact hm_law10_WeighPlan _ _
    | exact hm_law10_weighNodes _ _
    | exact LeO.refl _)
theorem law10_weighNodes.b0.mono (k : Nat) {s_law10_WeighPlan s'_law10_WeighPlan : TPlan → Int → Option Int} (hm_law10_WeighPlan : ∀ x0 x1, LeO (s_law10_WeighPlan x0 x1) (s'_law10_WeighPlan x0 x1)) {s_law10_weighNodes s'_law10_weighNodes : (List TNode) → Int → Option Int} (hm_law10_weighNodes : ∀ x0 x1, LeO (s_law10_weighNodes x0 x1) (s'_law10_weighNodes x0 x1)) (p0 : List TNode) (p1 : Int) (s699 : Int × Int) : LeO (law10_weighNodes.b0 k s_law10_WeighPlan s_law10_weighNodes p0 p1 s699) (law10_weighNodes.b0 (k + 1) s'_law10_WeighPlan s'_law10_weighNodes p0 p1 s699) := by
  unfold law10_weighNodes.b0
  repeat' (with_reducible first
    | assumption
    | refine LeO.bind ?_ (fun _ => ?_)
    | refine LeO.cond ?_ ?_
    | refine LeO.optE ?_ (fun _ => ?_) _
    | refine LeO.lrk (fun _ => ?_) (fun _ => ?_) _
    | refine LeO.forL (fun _ _ _ => ?_) _ _ _
    | refine LeO.whileL (fun _ => ?_) _ _
    | exact hm_law10_WeighPlan _ _
    | exact hm_law10_weighNodes _ _
    | exact law10_weighNodes.b1.mono k hm_law10_WeighPlan hm_law10_weighNodes _ _ _
    | exact LeO.refl _)
theorem law10_weighNodes.monoF (k : Nat) {s_law10_WeighPlan s'_law10_WeighPlan : TPlan → Int → Option Int} (hm_law10_WeighPlan : ∀ x0 x1, LeO (s_law10_WeighPlan x0 x1) (s'_law10_WeighPlan x0 x1)) {s_law10_weighNodes s'_law10_weighNodes : (List TNode) → Int → Option Int} (hm_law10_weighNodes : ∀ x0 x1, LeO (s_law10_weighNodes x0 x1) (s'_law10_weighNodes x0 x1)) (p0 : List TNode) (p1 : Int) : LeO (law10_weighNodes.F k s_law10_WeighPlan s_law10_weighNodes p0 p1) (law10_weighNodes.F (k + 1) s'_law10_WeighPlan s'_law10_weighNodes p0 p1) := by
  unfold law10_weighNodes.F
  repeat' (with_reducible first
    | assumption
    | refine LeO.bind ?_ (fun _ => ?_)
    | refine LeO.cond ?_ ?_
    | refine LeO.optE ?_ (fun _ => ?_) _
    | refine LeO.lrk (fun _ => ?_) (fun _ => ?_) _
    | refine LeO.forL (fun _ _ _ => ?_) _ _ _
    | refine LeO.whileL (fun _ => ?_) _ _
    | exact hm_law10_WeighPlan _ _
    | exact hm_law10_weighNodes _ _
    | exact law10_weighNodes.b1.mono k hm_law10_WeighPlan hm_law10_weighNodes _ _ _
    | exact law10_weighNodes.b0.mono k hm_law10_WeighPlan hm_law10_weighNodes _ _ _
    | exact LeO.refl _)
theorem law10_WeighPlan.mono_all : ∀ k, (∀ p0 p1, LeO (law10_WeighPlan k p0 p1) (law10_WeighPlan (k + 1) p0 p1)) ∧ (∀ p0 p1, LeO (law10_weighNodes k p0 p1) (law10_weighNodes (k + 1) p0 p1))
  | 0 => ⟨(fun p0 p1 => (fun _ h => (by cases h))), (fun p0 p1 => (fun _ h => (by cases h)))⟩
  | k + 1 => by
    have h := law10_WeighPlan.mono_all k
    exact ⟨fun p0 p1 => law10_WeighPlan.monoF k h.1 h.2 p0 p1, fun p0 p1 => law10_weighNodes.monoF k h.1 h.2 p0 p1⟩
theorem law10_WeighPlan.mono (k : Nat) : ∀ p0 p1, LeO (law10_WeighPlan k p0 p1) (law10_WeighPlan (k + 1) p0 p1) := (law10_WeighPlan.mono_all k).1
theorem law10_weighNodes.mono (k : Nat) : ∀ p0 p1, LeO (law10_weighNodes k p0 p1) (law10_weighNodes (k + 1) p0 p1) := (law10_WeighPlan.mono_all k).2
theorem weigh_kids.j0.mono (k : Nat) (m214 : Unit) : LeO (weigh_kids.j0 k m214) (weigh_kids.j0 (k + 1) m214) := by
  unfold weigh_kids.j0
  repeat' (with_reducible first
    | assumption
    | refine LeO.bind ?_ (fun _ => ?_)
    | refine LeO.cond ?_ ?_
    | refine LeO.optE ?_ (fun _ => ?_) _
    | refine LeO.lrk (fun _ => ?_) (fun _ => ?_) _
    | refine LeO.forL (fun _ _ _ => ?_) _ _ _
    | refine LeO.whileL (fun _ => ?_) _ _
    | exact LeO.refl _)
theorem weigh_kids.j1.mono (k : Nat) (m322 : Unit) : LeO (weigh_kids.j1 k m322) (weigh_kids.j1 (k + 1) m322) := by
  unfold weigh_kids.j1
  repeat' (with_reducible first
    | assumption
    | refine LeO.bind ?_ (fun _ => ?_)
    | refine LeO.cond ?_ ?_
    | refine LeO.optE ?_ (fun _ => ?_) _
    | refine LeO.lrk (fun _ => ?_) (fun _ => ?_) _
    | refine LeO.forL (fun _ _ _ => ?_) _ _ _
    | refine LeO.whileL (fun _ => ?_) _ _
    | exact weigh_kids.j0.mono k _
    | exact LeO.refl _)
theorem weigh_kids.j2.mono (k : Nat) (m376 : Unit) : LeO (weigh_kids.j2 k m376) (weigh_kids.j2 (k + 1) m376) := by
  unfold weigh_kids.j2
  repeat' (with_reducible first
    | assumption
    | refine LeO.bind ?_ (fun _ => ?_)
    | refine LeO.cond ?_ ?_
    | refine LeO.optE ?_ (fun _ => ?_) _
    | refine LeO.lrk (fun _ => ?_) (fun _ => ?_) _
    | refine LeO.forL (fun _ _ _ => ?_) _ _ _
    | refine LeO.whileL (fun _ => ?_) _ _
    | exact weigh_kids.j0.mono k _
    | exact weigh_kids.j1.mono k _
    | exact LeO.refl _)
theorem weigh_kids.mono (k : Nat) (p0 : Int) : LeO (weigh_kids k p0) (weigh_kids (k + 1) p0) := by
  unfold weigh_kids
  repeat' (with_reducible first
    | assumption
    | refine LeO.bind ?_ (fun _ => ?_)
    | refine LeO.cond ?_ ?_
    | refine LeO.optE ?_ (fun _ => ?_) _
    | refine LeO.lrk (fun _ => ?_) (fun _ => ?_) _
    | refine LeO.forL (fun _ _ _ => ?_) _ _ _
    | refine LeO.whileL (fun _ => ?_) _ _
    | exact weigh_kids.j0.mono k _
    | exact weigh_kids.j1.mono k _
    | exact weigh_kids.j2.mono k _
    | exact LeO.refl _)
theorem plane_At.mono (k : Nat) (p0 : Int) (p1 : Int) : LeO (plane_At k p0 p1) (plane_At (k + 1) p0 p1) := by
  unfold plane_At
  repeat' (with_reducible first
    | assumption
    | refine LeO.bind ?_ (fun _ => ?_)
    | refine LeO.cond ?_ ?_
    | refine LeO.optE ?_ (fun _ => ?_) _
    | refine LeO.lrk (fun _ => ?_) (fun _ => ?_) _
    | refine LeO.forL (fun _ _ _ => ?_) _ _ _
    | refine LeO.whileL (fun _ => ?_) _ _
    | exact LeO.refl _)
theorem weigh_cost.mono (k : Nat) (p0 : Int) (p1 : Int) : LeO (weigh_cost k p0 p1) (weigh_cost (k + 1) p0 p1) := by
  unfold weigh_cost
  repeat' (with_reducible first
    | assumption
    | refine LeO.bind ?_ (fun _ => ?_)
    | refine LeO.cond ?_ ?_
    | refine LeO.optE ?_ (fun _ => ?_) _
    | refine LeO.lrk (fun _ => ?_) (fun _ => ?_) _
    | refine LeO.forL (fun _ _ _ => ?_) _ _ _
    | refine LeO.whileL (fun _ => ?_) _ _
    | exact plane_At.mono k _ _
    | exact LeO.refl _)
theorem weigh_size.mono (k : Nat) (p0 : List Int) (p1 : Int) : LeO (weigh_size k p0 p1) (weigh_size (k + 1) p0 p1) := by
  unfold weigh_size
  repeat' (with_reducible first
    | assumption
    | refine LeO.bind ?_ (fun _ => ?_)
    | refine LeO.cond ?_ ?_
    | refine LeO.optE ?_ (fun _ => ?_) _
    | refine LeO.lrk (fun _ => ?_) (fun _ => ?_) _
    | refine LeO.forL (fun _ _ _ => ?_) _ _ _
    | refine LeO.whileL (fun _ => ?_) _ _
    | exact LeO.refl _)
theorem math_Trunc.mono (k : Nat) (p0 : Nat) : LeO (math_Trunc k p0) (math_Trunc (k + 1) p0) := by
  unfold math_Trunc
  repeat' (with_reducible first
    | assumption
    | refine LeO.bind ?_ (fun _ => ?_)
    | refine LeO.cond ?_ ?_
    | refine LeO.optE ?_ (fun _ => ?_) _
    | refine LeO.lrk (fun _ => ?_) (fun _ => ?_) _
    | refine LeO.forL (fun _ _ _ => ?_) _ _ _
    | refine LeO.whileL (fun _ => ?_) _ _
    | exact LeO.refl _)
theorem plane_whole.mono (k : Nat) (p0 : Nat) : LeO (plane_whole k p0) (plane_whole (k + 1) p0) := by
  unfold plane_whole
  repeat' (with_reducible first
    | assumption
    | refine LeO.bind ?_ (fun _ => ?_)
    | refine LeO.cond ?_ ?_
    | refine LeO.optE ?_ (fun _ => ?_) _
    | refine LeO.lrk (fun _ => ?_) (fun _ => ?_) _
    | refine LeO.forL (fun _ _ _ => ?_) _ _ _
    | refine LeO.whileL (fun _ => ?_) _ _
    | exact math_Trunc.mono k _
    | exact LeO.refl _)
theorem plane_Right.mono (k : Nat) (p0 : (Nat × Nat)) : LeO (plane_Right k p0) (plane_Right (k + 1) p0) := by
  unfold plane_Right
  repeat' (with_reducible first
    | assumption
    | refine LeO.bind ?_ (fun _ => ?_)
    | refine LeO.cond ?_ ?_
    | refine LeO.optE ?_ (fun _ => ?_) _
    | refine LeO.lrk (fun _ => ?_) (fun _ => ?_) _
    | refine LeO.forL (fun _ _ _ => ?_) _ _ _
    | refine LeO.whileL (fun _ => ?_) _ _
    | exact plane_whole.mono k _
    | exact LeO.refl _)
theorem plane_Rows.mono (k : Nat) (p0 : (Nat × Nat)) : LeO (plane_Rows k p0) (plane_Rows (k + 1) p0) := by
  unfold plane_Rows
  repeat' (with_reducible first
    | assumption
    | refine LeO.bind ?_ (fun _ => ?_)
    | refine LeO.cond ?_ ?_
    | refine LeO.optE ?_ (fun _ => ?_) _
    | refine LeO.lrk (fun _ => ?_) (fun _ => ?_) _
    | refine LeO.forL (fun _ _ _ => ?_) _ _ _
    | refine LeO.whileL (fun _ => ?_) _ _
    | exact plane_Right.mono k _
    | exact LeO.refl _)
theorem weigh_rowsOf.mono (k : Nat) (p0 : (Nat × Nat)) : LeO (weigh_rowsOf k p0) (weigh_rowsOf (k + 1) p0) := by
  unfold weigh_rowsOf
  repeat' (with_reducible first
    | assumption
    | refine LeO.bind ?_ (fun _ => ?_)
    | refine LeO.cond ?_ ?_
    | refine LeO.optE ?_ (fun _ => ?_) _
    | refine LeO.lrk (fun _ => ?_) (fun _ => ?_) _
    | refine LeO.forL (fun _ _ _ => ?_) _ _ _
    | refine LeO.whileL (fun _ => ?_) _ _
    | exact weigh_cost.mono k _ _
    | exact plane_Rows.mono k _
    | exact LeO.refl _)
theorem plane_both.mono (k : Nat) (p0 : (Nat × Nat)) (p1 : (Nat × Nat)) : LeO (plane_both k p0 p1) (plane_both (k + 1) p0 p1) := by
  unfold plane_both
  repeat' (with_reducible first
    | assumption
    | refine LeO.bind ?_ (fun _ => ?_)
    | refine LeO.cond ?_ ?_
    | refine LeO.optE ?_ (fun _ => ?_) _
    | refine LeO.lrk (fun _ => ?_) (fun _ => ?_) _
    | refine LeO.forL (fun _ _ _ => ?_) _ _ _
    | refine LeO.whileL (fun _ => ?_) _ _
    | exact plane_Right.mono k _
    | exact LeO.refl _)
theorem plane_cut.mono (k : Nat) (p0 : Nat) : LeO (plane_cut k p0) (plane_cut (k + 1) p0) := by
  unfold plane_cut
  repeat' (with_reducible first
    | assumption
    | refine LeO.bind ?_ (fun _ => ?_)
    | refine LeO.cond ?_ ?_
    | refine LeO.optE ?_ (fun _ => ?_) _
    | refine LeO.lrk (fun _ => ?_) (fun _ => ?_) _
    | refine LeO.forL (fun _ _ _ => ?_) _ _ _
    | refine LeO.whileL (fun _ => ?_) _ _
    | exact LeO.refl _)
theorem plane_Beside.mono (k : Nat) (p0 : (Nat × Nat)) (p1 : (Nat × Nat)) : LeO (plane_Beside k p0 p1) (plane_Beside (k + 1) p0 p1) := by
  unfold plane_Beside
  repeat' (with_reducible first
    | assumption
    | refine LeO.bind ?_ (fun _ => ?_)
    | refine LeO.cond ?_ ?_
    | refine LeO.optE ?_ (fun _ => ?_) _
    | refine LeO.lrk (fun _ => ?_) (fun _ => ?_) _
    | refine LeO.forL (fun _ _ _ => ?_) _ _ _
    | refine LeO.whileL (fun _ => ?_) _ _
    | exact plane_both.mono k _ _
    | exact plane_cut.mono k _
    | exact LeO.refl _)
theorem plane_Nest.mono (k : Nat) (p0 : (Nat × Nat)) (p1 : (Nat × Nat)) : LeO (plane_Nest k p0 p1) (plane_Nest (k + 1) p0 p1) := by
  unfold plane_Nest
  repeat' (with_reducible first
    | assumption
    | refine LeO.bind ?_ (fun _ => ?_)
    | refine LeO.cond ?_ ?_
    | refine LeO.optE ?_ (fun _ => ?_) _
    | refine LeO.lrk (fun _ => ?_) (fun _ => ?_) _
    | refine LeO.forL (fun _ _ _ => ?_) _ _ _
    | refine LeO.whileL (fun _ => ?_) _ _
    | exact plane_both.mono k _ _
    | exact plane_cut.mono k _
    | exact LeO.refl _)
theorem plane_Worst.mono (k : Nat) (p0 : (Nat × Nat)) (p1 : (Nat × Nat)) : LeO (plane_Worst k p0 p1) (plane_Worst (k + 1) p0 p1) := by
  unfold plane_Worst
  repeat' (with_reducible first
    | assumption
    | refine LeO.bind ?_ (fun _ => ?_)
    | refine LeO.cond ?_ ?_
    | refine LeO.optE ?_ (fun _ => ?_) _
    | refine LeO.lrk (fun _ => ?_) (fun _ => ?_) _
    | refine LeO.forL (fun _ _ _ => ?_) _ _ _
    | refine LeO.whileL (fun _ => ?_) _ _
    | exact plane_both.mono k _ _
    | exact LeO.refl _)
theorem weigh_both.mono (k : Nat) (p0 : Int) (p1 : (Nat × Nat)) (p2 : (Nat × Nat)) : LeO (weigh_both k p0 p1 p2) (weigh_both (k + 1) p0 p1 p2) := by
  unfold weigh_both
  repeat' (with_reducible first
    | assumption
    | refine LeO.bind ?_ (fun _ => ?_)
    | refine LeO.cond ?_ ?_
    | refine LeO.optE ?_ (fun _ => ?_) _
    | refine LeO.lrk (fun _ => ?_) (fun _ => ?_) _
    | refine LeO.forL (fun _ _ _ => ?_) _ _ _
    | refine LeO.whileL (fun _ => ?_) _ _
    | exact weigh_cost.mono k _ _
    | exact plane_Beside.mono k _ _
    | exact plane_Nest.mono k _ _
    | exact plane_Rows.mono k _
    | exact plane_Worst.mono k _ _
    | exact LeO.refl _)
theorem plane_Steps.mono (k : Nat) (p0 : (Nat × Nat)) : LeO (plane_Steps k p0) (plane_Steps (k + 1) p0) := by
  unfold plane_Steps
  repeat' (with_reducible first
    | assumption
    | refine LeO.bind ?_ (fun _ => ?_)
    | refine LeO.cond ?_ ?_
    | refine LeO.optE ?_ (fun _ => ?_) _
    | refine LeO.lrk (fun _ => ?_) (fun _ => ?_) _
    | refine LeO.forL (fun _ _ _ => ?_) _ _ _
    | refine LeO.whileL (fun _ => ?_) _ _
    | exact plane_Right.mono k _
    | exact LeO.refl _)
theorem weigh_nodes.b0.mono (k : Nat) (i141 : Nat) (x142 : TGather) (s123 : (List TNode)) : LeO (weigh_nodes.b0 k i141 x142 s123) (weigh_nodes.b0 (k + 1) i141 x142 s123) := by
  unfold weigh_nodes.b0
  repeat' (with_reducible first
    | assumption
    | refine LeO.bind ?_ (fun _ => ?_)
    | refine LeO.cond ?_ ?_
    | refine LeO.optE ?_ (fun _ => ?_) _
    | refine LeO.lrk (fun _ => ?_) (fun _ => ?_) _
    | refine LeO.forL (fun _ _ _ => ?_) _ _ _
    | refine LeO.whileL (fun _ => ?_) _ _
    | exact LeO.refl _)
theorem weigh_nodes.mono (k : Nat) (p0 : TPlan) : LeO (weigh_nodes k p0) (weigh_nodes (k + 1) p0) := by
  unfold weigh_nodes
  repeat' (with_reducible first
    | assumption
    | refine LeO.bind ?_ (fun _ => ?_)
    | refine LeO.cond ?_ ?_
    | refine LeO.optE ?_ (fun _ => ?_) _
    | refine LeO.lrk (fun _ => ?_) (fun _ => ?_) _
    | refine LeO.forL (fun _ _ _ => ?_) _ _ _
    | refine LeO.whileL (fun _ => ?_) _ _
    | exact weigh_nodes.b0.mono k _ _ _
    | exact LeO.refl _)
theorem plane_Then.mono (k : Nat) (p0 : (Nat × Nat)) (p1 : (Nat × Nat)) : LeO (plane_Then k p0 p1) (plane_Then (k + 1) p0 p1) := by
  unfold plane_Then
  repeat' (with_reducible first
    | assumption
    | refine LeO.bind ?_ (fun _ => ?_)
    | refine LeO.cond ?_ ?_
    | refine LeO.optE ?_ (fun _ => ?_) _
    | refine LeO.lrk (fun _ => ?_) (fun _ => ?_) _
    | refine LeO.forL (fun _ _ _ => ?_) _ _ _
    | refine LeO.whileL (fun _ => ?_) _ _
    | exact plane_both.mono k _ _
    | exact plane_cut.mono k _
    | exact LeO.refl _)
theorem weigh_Plan.monoF (k : Nat) {s_weigh_Plan s'_weigh_Plan : (List Int) → TPlan → Option (Nat × Nat)} (hm_weigh_Plan : ∀ x0 x1, LeO (s_weigh_Plan x0 x1) (s'_weigh_Plan x0 x1)) {s_weigh_within s'_weigh_within : (List Int) → (List TNode) → Option (Nat × Nat)} (hm_weigh_within : ∀ x0 x1, LeO (s_weigh_within x0 x1) (s'_weigh_within x0 x1)) (p0 : List Int) (p1 : TPlan) : LeO (weigh_Plan.F k s_weigh_Plan s_weigh_within p0 p1) (weigh_Plan.F (k + 1) s'_weigh_Plan s'_weigh_within p0 p1) := by
  unfold weigh_Plan.F
  repeat' (with_reducible first
    | assumption
    | refine LeO.bind ?_ (fun _ => ?_)
    | refine LeO.cond ?_ ?_
    | refine LeO.optE ?_ (fun _ => ?_) _
    | refine LeO.lrk (fun _ => ?_) (fun _ => ?_) _
    | refine LeO.forL (fun _ _ _ => ?_) _ _ _
    | refine LeO.whileL (fun _ => ?_) _ _
    | exact hm_weigh_Plan _ _
    | exact weigh_kids.mono k _
    | exact weigh_cost.mono k _ _
    | exact weigh_size.mono k _ _
    | exact weigh_rowsOf.mono k _
    | exact weigh_both.mono k _ _ _
    | exact plane_Beside.mono k _ _
    | exact plane_Steps.mono k _
    | exact plane_Nest.mono k _ _
    | exact hm_weigh_within _ _
    | exact weigh_nodes.mono k _
    | exact plane_Then.mono k _ _
    | exact LeO.refl _)
theorem weigh_within.b1.mono (k : Nat) {s_weigh_Plan s'_weigh_Plan : (List Int) → TPlan → Option (Nat × Nat)} (hm_weigh_Plan : ∀ x0 x1, LeO (s_weigh_Plan x0 x1) (s'_weigh_Plan x0 x1)) {s_weigh_within s'_weigh_within : (List Int) → (List TNode) → Option (Nat × Nat)} (hm_weigh_within : ∀ x0 x1, LeO (s_weigh_within x0 x1) (s'_weigh_within x0 x1)) (p0 : List Int) (i726 : Nat) (x727 : TPlan) (s703 : (Nat × Nat)) : LeO (weigh_within.b1 k s_weigh_Plan s_weigh_within p0 i726 x727 s703) (weigh_within.b1 (k + 1) s'_weigh_Plan s'_weigh_within p0 i726 x727 s703) := by
  unfold weigh_within.b1
  repeat' (with_reducible first
    | assumption
    | refine LeO.bind ?_ (fun _ => ?_)
    | refine LeO.cond ?_ ?_
    | refine LeO.optE ?_ (fun _ => ?_) _
    | refine LeO.lrk (fun _ => ?_) (fun _ => ?_) _
    | refine LeO.forL (fun _ _ _ => ?_) _ _ _
    | refine LeO.whileL (fun _ => ?_) _ _
    | exact hm_weigh_Plan _ _
    | exact weigh_cost.mono k _ _
    | exact plane_Beside.mono k _ _
    | exact plane_Steps.mono k _
    | exact hm_weigh_within _ _
    | exact LeO.refl _)
theorem weigh_within.b0.mono (k : Nat) {s_weigh_Plan s'_weigh_Plan : (List Int) → TPlan → Option (Nat × Nat)} (hm_weigh_Plan : ∀ x0 x1, LeO (s_weigh_Plan x0 x1) (s'_weigh_Plan x0 x1)) {s_weigh_within s'_weigh_within : (List Int) → (List TNode) → Option (Nat × Nat)} (hm_weigh_within : ∀ x0 x1, LeO (s_weigh_within x0 x1) (s'_weigh_within x0 x1)) (p0 : List Int) (i538 : Nat) (x539 : TNode) (s518 : (Nat × Nat)) : LeO (weigh_within.b0 k s_weigh_Plan s_weigh_within p0 i538 x539 s518) (weigh_within.b0 (k + 1) s'_weigh_Plan s'_weigh_within p0 i538 x539 s518) := by
  unfold weigh_within.b0
  repeat' (with_reducible first
    | assumption
    | refine LeO.bind ?_ (fun _ => ?_)
    | refine LeO.cond ?_ ?_
    | refine LeO.optE ?_ (fun _ => ?_) _
    | refine LeO.lrk (fun _ => ?_) (fun _ => ?_) _
    | refine LeO.forL (fun _ _ _ => ?_) _ _ _
    | refine LeO.whileL (fun _ => ?_) _ _
    | exact hm_weigh_Plan _ _
    | exact weigh_cost.mono k _ _
    | exact plane_Beside.mono k _ _
    | exact plane_Steps.mono k _
    | exact hm_weigh_within _ _
    | exact weigh_within.b1.mono k hm_weigh_Plan hm_weigh_within _ _ _ _
    | exact LeO.refl _)
theorem weigh_within.monoF (k : Nat) {s_weigh_Plan s'_weigh_Plan : (List Int) → TPlan → Option (Nat × Nat)} (hm_weigh_Plan : ∀ x0 x1, LeO (s_weigh_Plan x0 x1) (s'_weigh_Plan x0 x1)) {s_weigh_within s'_weigh_within : (List Int) → (List TNode) → Option (Nat × Nat)} (hm_weigh_within : ∀ x0 x1, LeO (s_weigh_within x0 x1) (s'_weigh_within x0 x1)) (p0 : List Int) (p1 : List TNode) : LeO (weigh_within.F k s_weigh_Plan s_weigh_within p0 p1) (weigh_within.F (k + 1) s'_weigh_Plan s'_weigh_within p0 p1) := by
  unfold weigh_within.F
  repeat' (with_reducible first
    | assumption
    | refine LeO.bind ?_ (fun _ => ?_)
    | refine LeO.cond ?_ ?_
    | refine LeO.optE ?_ (fun _ => ?_) _
    | refine LeO.lrk (fun _ => ?_) (fun _ => ?_) _
    | refine LeO.forL (fun _ _ _ => ?_) _ _ _
    | refine LeO.whileL (fun _ => ?_) _ _
    | exact hm_weigh_Plan _ _
    | exact weigh_cost.mono k _ _
    | exact plane_Beside.mono k _ _
    | exact plane_Steps.mono k _
    | exact hm_weigh_within _ _
    | exact weigh_within.b1.mono k hm_weigh_Plan hm_weigh_within _ _ _ _
    | exact weigh_within.b0.mono k hm_weigh_Plan hm_weigh_within _ _ _ _
    | exact LeO.refl _)
theorem weigh_Plan.mono_all : ∀ k, (∀ p0 p1, LeO (weigh_Plan k p0 p1) (weigh_Plan (k + 1) p0 p1)) ∧ (∀ p0 p1, LeO (weigh_within k p0 p1) (weigh_within (k + 1) p0 p1))
  | 0 => ⟨(fun p0 p1 => (fun _ h => (by cases h))), (fun p0 p1 => (fun _ h => (by cases h)))⟩
  | k + 1 => by
    have h := weigh_Plan.mono_all k
    exact ⟨fun p0 p1 => weigh_Plan.monoF k h.1 h.2 p0 p1, fun p0 p1 => weigh_within.monoF k h.1 h.2 p0 p1⟩
theorem weigh_Plan.mono (k : Nat) : ∀ p0 p1, LeO (weigh_Plan k p0 p1) (weigh_Plan (k + 1) p0 p1) := (weigh_Plan.mono_all k).1
theorem weigh_within.mono (k : Nat) : ∀ p0 p1, LeO (weigh_within k p0 p1) (weigh_within (k + 1) p0 p1) := (weigh_Plan.mono_all k).2
theorem law21_alive.mono (k : Nat) : LeO (law21_alive k ) (law21_alive (k + 1) ) := by
  unfold law21_alive
  repeat' (with_reducible first
    | assumption
    | refine LeO.bind ?_ (fun _ => ?_)
    | refine LeO.cond ?_ ?_
    | refine LeO.optE ?_ (fun _ => ?_) _
    | refine LeO.lrk (fun _ => ?_) (fun _ => ?_) _
    | refine LeO.forL (fun _ _ _ => ?_) _ _ _
    | refine LeO.whileL (fun _ => ?_) _ _
    | exact weigh_Plan.mono k _ _
    | exact LeO.refl _)
theorem law04_Point.mono (k : Nat) (p0 : Tref04_Cost) : LeO (law04_Point k p0) (law04_Point (k + 1) p0) := by
  unfold law04_Point
  repeat' (with_reducible first
    | assumption
    | refine LeO.bind ?_ (fun _ => ?_)
    | refine LeO.cond ?_ ?_
    | refine LeO.optE ?_ (fun _ => ?_) _
    | refine LeO.lrk (fun _ => ?_) (fun _ => ?_) _
    | refine LeO.forL (fun _ _ _ => ?_) _ _ _
    | refine LeO.whileL (fun _ => ?_) _ _
    | exact LeO.refl _)
theorem ref21_arity.mono (k : Nat) (p0 : Int) : LeO (ref21_arity k p0) (ref21_arity (k + 1) p0) := by
  unfold ref21_arity
  repeat' (with_reducible first
    | assumption
    | refine LeO.bind ?_ (fun _ => ?_)
    | refine LeO.cond ?_ ?_
    | refine LeO.optE ?_ (fun _ => ?_) _
    | refine LeO.lrk (fun _ => ?_) (fun _ => ?_) _
    | refine LeO.forL (fun _ _ _ => ?_) _ _ _
    | refine LeO.whileL (fun _ => ?_) _ _
    | exact LeO.refl _)
theorem ref21_add.mono (k : Nat) (p0 : Int) (p1 : Int) : LeO (ref21_add k p0 p1) (ref21_add (k + 1) p0 p1) := by
  unfold ref21_add
  repeat' (with_reducible first
    | assumption
    | refine LeO.bind ?_ (fun _ => ?_)
    | refine LeO.cond ?_ ?_
    | refine LeO.optE ?_ (fun _ => ?_) _
    | refine LeO.lrk (fun _ => ?_) (fun _ => ?_) _
    | refine LeO.forL (fun _ _ _ => ?_) _ _ _
    | refine LeO.whileL (fun _ => ?_) _ _
    | exact LeO.refl _)
theorem ref21_times.mono (k : Nat) (p0 : Int) (p1 : Int) : LeO (ref21_times k p0 p1) (ref21_times (k + 1) p0 p1) := by
  unfold ref21_times
  repeat' (with_reducible first
    | assumption
    | refine LeO.bind ?_ (fun _ => ?_)
    | refine LeO.cond ?_ ?_
    | refine LeO.optE ?_ (fun _ => ?_) _
    | refine LeO.lrk (fun _ => ?_) (fun _ => ?_) _
    | refine LeO.forL (fun _ _ _ => ?_) _ _ _
    | refine LeO.whileL (fun _ => ?_) _ _
    | exact LeO.refl _)
theorem ref21_Plan.b0.mono (k : Nat) {s_ref21_Plan s'_ref21_Plan : (List Int) → TPlan → Option Tref04_Cost} (hm_ref21_Plan : ∀ x0 x1, LeO (s_ref21_Plan x0 x1) (s'_ref21_Plan x0 x1)) {s_ref21_inside s'_ref21_inside : (List Int) → (List TNode) → Option Int} (hm_ref21_inside : ∀ x0 x1, LeO (s_ref21_inside x0 x1) (s'_ref21_inside x0 x1)) (p0 : List Int) (i397 : Nat) (x398 : TGather) (s371 : Int) : LeO (ref21_Plan.b0 k s_ref21_Plan s_ref21_inside p0 i397 x398 s371) (ref21_Plan.b0 (k + 1) s'_ref21_Plan s'_ref21_inside p0 i397 x398 s371) := by
  unfold ref21_Plan.b0
  repeat' (with_reducible first
    | assumption
    | refine LeO.bind ?_ (fun _ => ?_)
    | refine LeO.cond ?_ ?_
    | refine LeO.optE ?_ (fun _ => ?_) _
    | refine LeO.lrk (fun _ => ?_) (fun _ => ?_) _
    | refine LeO.forL (fun _ _ _ => ?_) _ _ _
    | refine LeO.whileL (fun _ => ?_) _ _
    | exact hm_ref21_Plan _ _
    | exact ref21_arity.mono k _
    | exact ref21_add.mono k _ _
    | exact ref21_times.mono k _ _
    | exact hm_ref21_inside _ _
    | exact LeO.refl _)
theorem ref21_Plan.monoF (k : Nat) {s_ref21_Plan s'_ref21_Plan : (List Int) → TPlan → Option Tref04_Cost} (hm_ref21_Plan : ∀ x0 x1, LeO (s_ref21_Plan x0 x1) (s'_ref21_Plan x0 x1)) {s_ref21_inside s'_ref21_inside : (List Int) → (List TNode) → Option Int} (hm_ref21_inside : ∀ x0 x1, LeO (s_ref21_inside x0 x1) (s'_ref21_inside x0 x1)) (p0 : List Int) (p1 : TPlan) : LeO (ref21_Plan.F k s_ref21_Plan s_ref21_inside p0 p1) (ref21_Plan.F (k + 1) s'_ref21_Plan s'_ref21_inside p0 p1) := by
  unfold ref21_Plan.F
  repeat' (with_reducible first
    | assumption
    | refine LeO.bind ?_ (fun _ => ?_)
    | refine LeO.cond ?_ ?_
    | refine LeO.optE ?_ (fun _ => ?_) _
    | refine LeO.lrk (fun _ => ?_) (fun _ => ?_) _
    | refine LeO.forL (fun _ _ _ => ?_) _ _ _
    | refine LeO.whileL (fun _ => ?_) _ _
    | exact hm_ref21_Plan _ _
    | exact ref21_arity.mono k _
    | exact ref21_add.mono k _ _
    | exact ref21_times.mono k _ _
    | exact hm_ref21_inside _ _
    | exact ref21_Plan.b0.mono k hm_ref21_Plan hm_ref21_inside _ _ _ _
    | exact LeO.refl _)
theorem ref21_inside.b1.mono (k : Nat) {s_ref21_Plan s'_ref21_Plan : (List Int) → TPlan → Option Tref04_Cost} (hm_ref21_Plan : ∀ x0 x1, LeO (s_ref21_Plan x0 x1) (s'_ref21_Plan x0 x1)) {s_ref21_inside s'_ref21_inside : (List Int) → (List TNode) → Option Int} (hm_ref21_inside : ∀ x0 x1, LeO (s_ref21_inside x0 x1) (s'_ref21_inside x0 x1)) (x630 : TNode) (p0 : List Int) (s811 : Int × Int) : LeO (ref21_inside.b1 k s_ref21_Plan s_ref21_inside x630 p0 s811) (ref21_inside.b1 (k + 1) s'_ref21_Plan s'_ref21_inside x630 p0 s811) := by
  unfold ref21_inside.b1
  repeat' (with_reducible first
    | assumption
    | refine LeO.bind ?_ (fun _ => ?_)
    | refine LeO.cond ?_ ?_
    | refine LeO.optE ?_ (fun _ => ?_) _
    | refine LeO.lrk (fun _ => ?_) (fun _ => ?_) _
    | refine LeO.forL (fun _ _ _ => ?_) _ _ _
    | refine LeO.whileL (fun _ => ?_) _ _
    | exact hm_ref21_Plan _ _
    | exact ref21_add.mono k _ _
    | exact hm_ref21_inside _ _
    | exact LeO.refl _)
theorem ref21_inside.b0.mono (k : Nat) {s_ref21_Plan s'_ref21_Plan : (List Int) → TPlan → Option Tref04_Cost} (hm_ref21_Plan : ∀ x0 x1, LeO (s_ref21_Plan x0 x1) (s'_ref21_Plan x0 x1)) {s_ref21_inside s'_ref21_inside : (List Int) → (List TNode) → Option Int} (hm_ref21_inside : ∀ x0 x1, LeO (s_ref21_inside x0 x1) (s'_ref21_inside x0 x1)) (p0 : List Int) (i629 : Nat) (x630 : TNode) (s618 : Int) : LeO (ref21_inside.b0 k s_ref21_Plan s_ref21_inside p0 i629 x630 s618) (ref21_inside.b0 (k + 1) s'_ref21_Plan s'_ref21_inside p0 i629 x630 s618) := by
  unfold ref21_inside.b0
  repeat' (with_reducible first
    | assumption
    | refine LeO.bind ?_ (fun _ => ?_)
    | refine LeO.cond ?_ ?_
    | refine LeO.optE ?_ (fun _ => ?_) _
    | refine LeO.lrk (fun _ => ?_) (fun _ => ?_) _
    | refine LeO.forL (fun _ _ _ => ?_) _ _ _
    | refine LeO.whileL (fun _ => ?_) _ _
    | exact hm_ref21_Plan _ _
    | exact ref21_add.mono k _ _
    | exact hm_ref21_inside _ _
    | exact ref21_inside.b1.mono k hm_ref21_Plan hm_ref21_inside _ _ _
    | exact LeO.refl _)
theorem ref21_inside.monoF (k : Nat) {s_ref21_Plan s'_ref21_Plan : (List Int) → TPlan → Option Tref04_Cost} (hm_ref21_Plan : ∀ x0 x1, LeO (s_ref21_Plan x0 x1) (s'_ref21_Plan x0 x1)) {s_ref21_inside s'_ref21_inside : (List Int) → (List TNode) → Option Int} (hm_ref21_inside : ∀ x0 x1, LeO (s_ref21_inside x0 x1) (s'_ref21_inside x0 x1)) (p0 : List Int) (p1 : List TNode) : LeO (ref21_inside.F k s_ref21_Plan s_ref21_inside p0 p1) (ref21_inside.F (k + 1) s'_ref21_Plan s'_ref21_inside p0 p1) := by
  unfold ref21_inside.F
  repeat' (with_reducible first
    | assumption
    | refine LeO.bind ?_ (fun _ => ?_)
    | refine LeO.cond ?_ ?_
    | refine LeO.optE ?_ (fun _ => ?_) _
    | refine LeO.lrk (fun _ => ?_) (fun _ => ?_) _
    | refine LeO.forL (fun _ _ _ => ?_) _ _ _
    | refine LeO.whileL (fun _ => ?_) _ _
    | exact hm_ref21_Plan _ _
    | exact ref21_add.mono k _ _
    | exact hm_ref21_inside _ _
    | exact ref21_inside.b1.mono k hm_ref21_Plan hm_ref21_inside _ _ _
    | exact ref21_inside.b0.mono k hm_ref21_Plan hm_ref21_inside _ _ _ _
    | exact LeO.refl _)
theorem ref21_Plan.mono_all : ∀ k, (∀ p0 p1, LeO (ref21_Plan k p0 p1) (ref21_Plan (k + 1) p0 p1)) ∧ (∀ p0 p1, LeO (ref21_inside k p0 p1) (ref21_inside (k + 1) p0 p1))
  | 0 => ⟨(fun p0 p1 => (fun _ h => (by cases h))), (fun p0 p1 => (fun _ h => (by cases h)))⟩
  | k + 1 => by
    have h := ref21_Plan.mono_all k
    exact ⟨fun p0 p1 => ref21_Plan.monoF k h.1 h.2 p0 p1, fun p0 p1 => ref21_inside.monoF k h.1 h.2 p0 p1⟩
theorem ref21_Plan.mono (k : Nat) : ∀ p0 p1, LeO (ref21_Plan k p0 p1) (ref21_Plan (k + 1) p0 p1) := (ref21_Plan.mono_all k).1
theorem ref21_inside.mono (k : Nat) : ∀ p0 p1, LeO (ref21_inside k p0 p1) (ref21_inside (k + 1) p0 p1) := (ref21_Plan.mono_all k).2
theorem law21_WeighPlans.mono (k : Nat) (p0 : List Int) (p1 : TPlan) : LeO (law21_WeighPlans k p0 p1) (law21_WeighPlans (k + 1) p0 p1) := by
  unfold law21_WeighPlans
  repeat' (with_reducible first
    | assumption
    | refine LeO.bind ?_ (fun _ => ?_)
    | refine LeO.cond ?_ ?_
    | refine LeO.optE ?_ (fun _ => ?_) _
    | refine LeO.lrk (fun _ => ?_) (fun _ => ?_) _
    | refine LeO.forL (fun _ _ _ => ?_) _ _ _
    | refine LeO.whileL (fun _ => ?_) _ _
    | exact law10_WeighPlan.mono k _ _
    | exact law21_alive.mono k
    | exact weigh_Plan.mono k _ _
    | exact law04_Point.mono k _
    | exact ref21_Plan.mono k _ _
    | exact plane_Right.mono k _
    | exact LeO.refl _)
theorem plane_Within.mono (k : Nat) (p0 : (Nat × Nat)) (p1 : (Nat × Nat)) : LeO (plane_Within k p0 p1) (plane_Within (k + 1) p0 p1) := by
  unfold plane_Within
  repeat' (with_reducible first
    | assumption
    | refine LeO.bind ?_ (fun _ => ?_)
    | refine LeO.cond ?_ ?_
    | refine LeO.optE ?_ (fun _ => ?_) _
    | refine LeO.lrk (fun _ => ?_) (fun _ => ?_) _
    | refine LeO.forL (fun _ _ _ => ?_) _ _ _
    | refine LeO.whileL (fun _ => ?_) _ _
    | exact plane_both.mono k _ _
    | exact LeO.refl _)
theorem law21_WeighMore.mono (k : Nat) (p0 : List Int) (p1 : TPlan) (p2 : Int) (p3 : Int) : LeO (law21_WeighMore k p0 p1 p2 p3) (law21_WeighMore (k + 1) p0 p1 p2 p3) := by
  unfold law21_WeighMore
  repeat' (with_reducible first
    | assumption
    | refine LeO.bind ?_ (fun _ => ?_)
    | refine LeO.cond ?_ ?_
    | refine LeO.optE ?_ (fun _ => ?_) _
    | refine LeO.lrk (fun _ => ?_) (fun _ => ?_) _
    | refine LeO.forL (fun _ _ _ => ?_) _ _ _
    | refine LeO.whileL (fun _ => ?_) _ _
    | exact law10_WeighPlan.mono k _ _
    | exact law21_alive.mono k
    | exact weigh_Plan.mono k _ _
    | exact plane_Within.mono k _ _
    | exact LeO.refl _)
end Go.Proofs.Ytliaopbgkcdibaa
