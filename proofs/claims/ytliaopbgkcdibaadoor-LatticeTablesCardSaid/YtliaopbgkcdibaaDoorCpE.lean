/- The functions, as plain Lean: each Go function with the same answers (none: it panics there, or the rounds are used up). Written by mk.py. -/
import Derived.Test.YtliaopbgkcdibaaDoorCxF
set_option linter.unusedVariables false
set_option linter.unusedSimpArgs false
set_option maxRecDepth 100000
namespace Go.Proofs.YtliaopbgkcdibaaDoor
structure TPair where
  Low : ByteArray
  High : ByteArray
structure Tlattice_Lattice where
  names_ : List ByteArray
  at_ : List (ByteArray × Int)
  up_ : List Int
  down_ : List Int
  join_ : List Int
  meet_ : List Int
structure Tref03_Lattice where
  Names : List ByteArray
  Below : List (List Bool)
def gt0 : List Int := [0, 1, 28, 2, 29, 14, 24, 3, 30, 22, 20, 15, 25, 17, 4, 8, 31, 27, 13, 23, 21, 19, 16, 7, 26, 12, 18, 6, 11, 5, 10, 9]
theorem gt0_len : gt0.length = 32 := by decide

def law03_Few.b0 (k : Nat) (i65 : Nat) (x66 : TPair) (s48 : Unit) : Option (Step Bool Unit) :=
  (((bif decide ((60 : Int) < (x66.Low.size : Int)) then some true else some (decide ((60 : Int) < (x66.High.size : Int))))).bind fun m83 => (bif m83 then some (.ret false) else some (.next ())))
def law03_Few.b1 (k : Nat) (i90 : Nat) (x91 : ByteArray) (s19 : Unit) : Option (Step Bool Unit) :=
  (bif decide ((60 : Int) < (x91.size : Int)) then some (.ret false) else some (.next ()))
def law03_Few (k : Nat) (p0 : List ByteArray) (p1 : List TPair) : Option (Bool) :=
  ((forL (law03_Few.b1 k) 0 p0 ()).bind (Lr.k (fun r => some r) (fun s24 => ((forL (law03_Few.b0 k) 0 p1 ()).bind (Lr.k (fun r => some r) (fun s53 => (((bif decide ((p0.length : Int) ≤ (20 : Int)) then some (decide ((p1.length : Int) ≤ (80 : Int))) else some false)).bind fun m59 => some m59)))))))
def slices_Clone_string_string (k : Nat) (p0 : List ByteArray) : Option ((List ByteArray)) :=
  ((lim (([] : List ByteArray).length + p0.length)).bind fun _ => some (([] : List ByteArray) ++ p0))
def lattice_Lattice_named.b0 (k : Nat) (p0 : Tlattice_Lattice) (i284 : Nat) (x285 : ByteArray) (s260 : (List (ByteArray × Int)) × (List Int) × (List Int)) : Option (Step (Int × Tlattice_Lattice) ((List (ByteArray × Int)) × (List Int) × (List Int))) :=
  (((bif (mget s260.1 x285).isSome then some true else (bif decide (x285 = (⟨#[]⟩ : ByteArray)) then some true else some (decide ((30 : Int) < (x285.size : Int)))))).bind fun m308 => (bif m308 then some (.ret ((11 : Int), (Tlattice_Lattice.mk p0.names_ s260.1 s260.2.1 s260.2.2 p0.join_ p0.meet_))) else ((shlO .u32 (1 : Int) (i284 : Int)).bind fun z333 => ((lim (s260.2.1.length + ([z333]).length)).bind fun _ => ((shlO .u32 (1 : Int) (i284 : Int)).bind fun z362 => ((lim (s260.2.2.length + ([z362]).length)).bind fun _ => some (.next ((mput s260.1 x285 (i284 : Int)), (s260.2.1 ++ [z333]), (s260.2.2 ++ [z362])))))))))
def lattice_Lattice_named (k : Nat) (p0 : Tlattice_Lattice) : Option (Int × Tlattice_Lattice) :=
  ((forL (lattice_Lattice_named.b0 k p0) 0 p0.names_ (p0.at_, p0.up_, p0.down_)).bind (Lr.k (fun r => some r) (fun s265 => some ((0 : Int), (Tlattice_Lattice.mk p0.names_ s265.1 s265.2.1 s265.2.2 p0.join_ p0.meet_)))))
def lattice_set_has (k : Nat) (p0 : Int) (p1 : Int) : Option (Bool) :=
  ((shrO .u32 p0 p1).bind fun z2 => some (decide ((IntKind.wrap .u32 ((BitVec.ofInt (IntKind.bits .u32) z2) &&& (BitVec.ofInt (IntKind.bits .u32) (1 : Int))).toNat) = (1 : Int))))
def lattice_Lattice_edges.b2 (k : Nat) (i8032 : Nat) (i8373 : Nat) (x8374 : Int) (s8353 : (List Int) × (List Int)) : Option (Step (Int × Tlattice_Lattice) ((List Int) × (List Int))) :=
  ((((getO s8353.1 (i8032 : Int)).bind fun y8459 => ((lattice_set_has k y8459 (i8373 : Int)).bind fun y8466 => (bif y8466 then ((getO s8353.2 (i8373 : Int)).bind fun y8493 => ((shlO .u32 (1 : Int) (i8032 : Int)).bind fun z8500 => ((getO s8353.2 (i8373 : Int)).bind fun y8502 => some (s8353.1, (setO s8353.2 (i8373 : Int) (IntKind.wrap .u32 ((BitVec.ofInt (IntKind.bits .u32) y8493) ||| (BitVec.ofInt (IntKind.bits .u32) z8500)).toNat)))))) else some (s8353.1, s8353.2))))).bind fun m8450 => some (.next (m8450.1, m8450.2)))
def lattice_Lattice_edges.b1 (k : Nat) (i8032 : Nat) (x8033 : Int) (s8012 : (List Int) × (List Int)) : Option (Step (Int × Tlattice_Lattice) ((List Int) × (List Int))) :=
  ((forL (lattice_Lattice_edges.b2 k i8032) 0 s8012.1 (s8012.1, s8012.2)).bind (Lr.k (fun r => some (.ret r)) (fun s8358 => some (.next (s8358.1, s8358.2)))))
def lattice_Lattice_edges.b4 (k : Nat) (y8526 : Int) (i8513 : Nat) (i8840 : Nat) (x8841 : Int) (s8812 : (List Int)) : Option (Step (Int × Tlattice_Lattice) (List Int)) :=
  ((((lattice_set_has k y8526 (i8840 : Int)).bind fun y8916 => (bif y8916 then ((getO s8812 (i8513 : Int)).bind fun y8951 => ((getO s8812 (i8840 : Int)).bind fun y8958 => ((getO s8812 (i8513 : Int)).bind fun y8964 => some ((setO s8812 (i8513 : Int) (IntKind.wrap .u32 ((BitVec.ofInt (IntKind.bits .u32) y8951) ||| (BitVec.ofInt (IntKind.bits .u32) y8958)).toNat)))))) else some s8812))).bind fun m8912 => some (.next m8912))
def lattice_Lattice_edges.b3 (k : Nat) (i8513 : Nat) (x8514 : Int) (s7004 : (List Int)) : Option (Step (Step (Int × Tlattice_Lattice) (List Int)) (List Int)) :=
  ((getO s7004 (i8513 : Int)).bind fun y8526 => ((forL (lattice_Lattice_edges.b4 k y8526 i8513) 0 s7004 s7004).bind (Lr.k (fun r => some (.ret (.ret r))) (fun s8817 => ((getO s8817 (i8513 : Int)).bind fun y8830 => (bif !decide (y8830 = y8526) then some (.ret (.next s8817)) else some (.next s8817)))))))
def lattice_Lattice_edges.b0 (k : Nat) (p0 : Tlattice_Lattice) (s6045 : (List Int)) : Option (Step (Int × Tlattice_Lattice) (List Int)) :=
  ((forL (lattice_Lattice_edges.b3 k) 0 s6045 s6045).bind (Lr.k (fun r => some r) (fun s7009 => ((forL (lattice_Lattice_edges.b1 k) 0 s7009 (s7009, p0.down_)).bind (Lr.k (fun r => some (.ret r)) (fun s8017 => some (.ret ((0 : Int), (Tlattice_Lattice.mk p0.names_ p0.at_ s8017.1 s8017.2 p0.join_ p0.meet_)))))))))
def lattice_Lattice_edges.b5 (k : Nat) (p0 : Tlattice_Lattice) (i8975 : Nat) (x8976 : TPair) (s193 : (List Int)) : Option (Step (Int × Tlattice_Lattice) (List Int)) :=
  (((bif !((mget p0.at_ x8976.Low).isSome) then some true else some (!((mget p0.at_ x8976.High).isSome)))).bind fun m9008 => (bif m9008 then some (.ret ((11 : Int), (Tlattice_Lattice.mk p0.names_ p0.at_ s193 p0.down_ p0.join_ p0.meet_))) else ((getO s193 ((mget p0.at_ x8976.Low).getD (0 : Int))).bind fun y9034 => ((shlO .u32 (1 : Int) ((mget p0.at_ x8976.High).getD (0 : Int))).bind fun z9041 => ((getO s193 ((mget p0.at_ x8976.Low).getD (0 : Int))).bind fun y9043 => some (.next (setO s193 ((mget p0.at_ x8976.Low).getD (0 : Int)) (IntKind.wrap .u32 ((BitVec.ofInt (IntKind.bits .u32) y9034) ||| (BitVec.ofInt (IntKind.bits .u32) z9041)).toNat))))))))
def lattice_Lattice_edges (k : Nat) (p0 : Tlattice_Lattice) (p1 : List TPair) : Option (Int × Tlattice_Lattice) :=
  ((forL (lattice_Lattice_edges.b5 k p0) 0 p1 p0.up_).bind (Lr.k (fun r => some r) (fun s198 => ((whileL (lattice_Lattice_edges.b0 k p0) k s198).bind (Lr.k (fun r => some r) (fun s6050 => none))))))
def lattice_least.b0 (k : Nat) (p0 : Int) (i42 : Nat) (x43 : Int) (s32 : Unit) : Option (Step Int Unit) :=
  ((((lattice_set_has k p0 (i42 : Int)).bind fun y67 => (bif y67 then some (decide ((IntKind.wrap .u32 ((BitVec.ofInt (IntKind.bits .u32) p0) &&& ~~~(BitVec.ofInt (IntKind.bits .u32) x43)).toNat) = (0 : Int))) else some false))).bind fun m63 => (bif m63 then some (.ret (i42 : Int)) else some (.next ())))
def lattice_least (k : Nat) (p0 : Int) (p1 : List Int) : Option (Int) :=
  ((forL (lattice_least.b0 k p0) 0 p1 ()).bind (Lr.k (fun r => some r) (fun s37 => some (-1 : Int))))
def lattice_Lattice_tables.b1 (k : Nat) (i902 : Nat) (p0 : Tlattice_Lattice) (i1210 : Nat) (x1211 : ByteArray) (s1198 : (List Int) × (List Int)) : Option (Step (Bool × Tlattice_Lattice) ((List Int) × (List Int))) :=
  (((bif !decide ((i902 : Int) = (i1210 : Int)) then ((getO p0.up_ (i902 : Int)).bind fun y1332 => ((lattice_set_has k y1332 (i1210 : Int)).bind fun y1335 => (bif y1335 then ((getO p0.up_ (i1210 : Int)).bind fun y1344 => ((lattice_set_has k y1344 (i902 : Int)).bind fun y1347 => some y1347)) else some false))) else some false)).bind fun m1243 => (bif m1243 then some (.ret (false, (Tlattice_Lattice.mk p0.names_ p0.at_ p0.up_ p0.down_ s1198.1 s1198.2))) else ((getO p0.up_ (i902 : Int)).bind fun y1280 => ((getO p0.up_ (i1210 : Int)).bind fun y1287 => ((lattice_least k (IntKind.wrap .u32 ((BitVec.ofInt (IntKind.bits .u32) y1280) &&& (BitVec.ofInt (IntKind.bits .u32) y1287)).toNat) p0.up_).bind fun y1290 => ((getO p0.down_ (i902 : Int)).bind fun y1297 => ((getO p0.down_ (i1210 : Int)).bind fun y1304 => ((lattice_least k (IntKind.wrap .u32 ((BitVec.ofInt (IntKind.bits .u32) y1297) &&& (BitVec.ofInt (IntKind.bits .u32) y1304)).toNat) p0.down_).bind fun y1307 => (((bif decide (y1290 < (0 : Int)) then some true else some (decide (y1307 < (0 : Int))))).bind fun m1313 => (bif m1313 then some (.ret (false, (Tlattice_Lattice.mk p0.names_ p0.at_ p0.up_ p0.down_ s1198.1 s1198.2))) else ((inB 16 (i902 : Int)).bind fun _ => ((inB 16 (i1210 : Int)).bind fun _ => ((inB 16 (i902 : Int)).bind fun _ => ((inB 16 (i1210 : Int)).bind fun _ => some (.next ((setA s1198.1 ((i902 : Int).toNat * 16 + (i1210 : Int).toNat * 1) y1290), (setA s1198.2 ((i902 : Int).toNat * 16 + (i1210 : Int).toNat * 1) y1307)))))))))))))))))
def lattice_Lattice_tables.b0 (k : Nat) (p0 : Tlattice_Lattice) (i902 : Nat) (x903 : ByteArray) (s886 : (List Int) × (List Int)) : Option (Step (Bool × Tlattice_Lattice) ((List Int) × (List Int))) :=
  ((forL (lattice_Lattice_tables.b1 k i902 p0) 0 p0.names_ (s886.1, s886.2)).bind (Lr.k (fun r => some (.ret r)) (fun s1203 => some (.next (s1203.1, s1203.2)))))
def lattice_Lattice_tables (k : Nat) (p0 : Tlattice_Lattice) : Option (Bool × Tlattice_Lattice) :=
  ((forL (lattice_Lattice_tables.b0 k p0) 0 p0.names_ (p0.join_, p0.meet_)).bind (Lr.k (fun r => some r) (fun s891 => some (decide ((0 : Int) < (p0.names_.length : Int)), (Tlattice_Lattice.mk p0.names_ p0.at_ p0.up_ p0.down_ s891.1 s891.2)))))
def lattice_New (k : Nat) (p0 : List ByteArray) (p1 : List TPair) : Option ((Option Tlattice_Lattice) × Int) :=
  (((bif decide ((16 : Int) < (p0.length : Int)) then some true else some (decide ((64 : Int) < (p1.length : Int))))).bind fun m10 => (bif m10 then some ((none : Option Tlattice_Lattice), (8 : Int)) else ((slices_Clone_string_string k p0).bind fun y17 => ((lattice_Lattice_named k (Tlattice_Lattice.mk y17 ([] : List (ByteArray × Int)) ([] : List Int) ([] : List Int) ([] : List Int) ([] : List Int))).bind fun y33 => (bif !decide (y33.1 = (0 : Int)) then some ((none : Option Tlattice_Lattice), y33.1) else ((lattice_Lattice_edges k y33.2 p1).bind fun y58 => (bif !decide (y58.1 = (0 : Int)) then some ((none : Option Tlattice_Lattice), y58.1) else ((lattice_Lattice_tables k y58.2).bind fun y84 => (bif !y84.1 then some ((none : Option Tlattice_Lattice), (12 : Int)) else some ((some y84.2), (0 : Int)))))))))))
def lattice_Lattice_is (k : Nat) (p0 : Option Tlattice_Lattice) (p1 : Int) : Option (Bool) :=
  (((bif !p0.isNone then (bif decide ((0 : Int) ≤ p1) then (optE p0 none fun y29 => some (decide (p1 < (y29.names_.length : Int)))) else some false) else some false)).bind fun m24 => some m24)
def lattice_Lattice_Leq (k : Nat) (p0 : Option Tlattice_Lattice) (p1 : Int) (p2 : Int) : Option (Bool) :=
  ((((lattice_Lattice_is k p0 p1).bind fun y46 => (bif y46 then ((lattice_Lattice_is k p0 p2).bind fun y51 => (bif y51 then (optE p0 none fun y56 => ((getO y56.up_ p1).bind fun y76 => ((lattice_set_has k y76 p2).bind fun y79 => some y79))) else some false)) else some false))).bind fun m43 => some m43)
def lattice_Lattice_Join (k : Nat) (p0 : Option Tlattice_Lattice) (p1 : Int) (p2 : Int) : Option (Int) :=
  ((((lattice_Lattice_is k p0 p1).bind fun y38 => (bif !y38 then some true else ((lattice_Lattice_is k p0 p2).bind fun y43 => some (!y43))))).bind fun m15 => (bif m15 then some (-1 : Int) else (optE p0 none fun y19 => ((inB 16 p1).bind fun _ => ((inB 16 p2).bind fun _ => some (y19.join_.getD (p1.toNat * 16 + p2.toNat * 1) 0))))))
def lattice_Lattice_Meet (k : Nat) (p0 : Option Tlattice_Lattice) (p1 : Int) (p2 : Int) : Option (Int) :=
  ((((lattice_Lattice_is k p0 p1).bind fun y38 => (bif !y38 then some true else ((lattice_Lattice_is k p0 p2).bind fun y43 => some (!y43))))).bind fun m15 => (bif m15 then some (-1 : Int) else (optE p0 none fun y19 => ((inB 16 p1).bind fun _ => ((inB 16 p2).bind fun _ => some (y19.meet_.getD (p1.toNat * 16 + p2.toNat * 1) 0))))))
def law03_diamond (k : Nat) : Option ((List ByteArray) × (List TPair)) :=
  some ([(⟨#[108, 111, 119]⟩ : ByteArray), (⟨#[97]⟩ : ByteArray), (⟨#[98]⟩ : ByteArray), (⟨#[104, 105, 103, 104]⟩ : ByteArray)], [(TPair.mk (⟨#[108, 111, 119]⟩ : ByteArray) (⟨#[97]⟩ : ByteArray)), (TPair.mk (⟨#[108, 111, 119]⟩ : ByteArray) (⟨#[98]⟩ : ByteArray)), (TPair.mk (⟨#[97]⟩ : ByteArray) (⟨#[104, 105, 103, 104]⟩ : ByteArray)), (TPair.mk (⟨#[98]⟩ : ByteArray) (⟨#[104, 105, 103, 104]⟩ : ByteArray))])
def law03_alive (k : Nat) : Option (Bool) :=
  ((law03_diamond k ).bind fun y9 => ((lattice_New k y9.1 y9.2).bind fun y23 => ((cutO y9.1 (0 : Int) (3 : Int)).bind fun z59 => ((cutO y9.2 (0 : Int) (2 : Int)).bind fun z65 => ((lattice_New k z59 z65).bind fun y71 => (((bif !y23.1.isNone then (bif decide (y23.2 = (0 : Int)) then (bif decide (y71.2 = (12 : Int)) then ((lattice_Lattice_Join k y23.1 (1 : Int) (2 : Int)).bind fun y108 => (bif decide (y108 = (3 : Int)) then ((lattice_Lattice_Meet k y23.1 (1 : Int) (2 : Int)).bind fun y113 => (bif decide (y113 = (0 : Int)) then ((lattice_Lattice_Leq k y23.1 (0 : Int) (3 : Int)).bind fun y118 => (bif y118 then ((lattice_Lattice_Leq k y23.1 (1 : Int) (2 : Int)).bind fun y123 => some (!y123)) else some false)) else some false)) else some false)) else some false) else some false) else some false)).bind fun m102 => some m102))))))
def ref03_Lattice_Is (k : Nat) (p0 : Option Tref03_Lattice) (p1 : Int) : Option (Bool) :=
  (((bif decide ((0 : Int) ≤ p1) then (optE p0 none fun y21 => some (decide (p1 < (y21.Names.length : Int)))) else some false)).bind fun m17 => some m17)
def ref03_Lattice_Leq (k : Nat) (p0 : Option Tref03_Lattice) (p1 : Int) (p2 : Int) : Option (Bool) :=
  ((((ref03_Lattice_Is k p0 p1).bind fun y47 => (bif y47 then ((ref03_Lattice_Is k p0 p2).bind fun y52 => (bif y52 then (optE p0 none fun y57 => ((getO y57.Below p1).bind fun y72 => ((getO y72 p2).bind fun y82 => some y82))) else some false)) else some false))).bind fun m44 => some m44)
def ref03_Lattice_Join.j1 (k : Nat) (m943 : Unit) : Option (Step Int Unit) :=
  some (.next ())
def ref03_Lattice_Join.b2 (k : Nat) (p0 : Option Tref03_Lattice) (p1 : Int) (p2 : Int) (i633 : Nat) (i1144 : Nat) (x1145 : ByteArray) (s1132 : Bool) : Option (Step Int Bool) :=
  ((((((ref03_Lattice_Leq k p0 p1 (i1144 : Int)).bind fun y1216 => (bif y1216 then ((ref03_Lattice_Leq k p0 p2 (i1144 : Int)).bind fun y1221 => (bif y1221 then ((ref03_Lattice_Leq k p0 (i633 : Int) (i1144 : Int)).bind fun y1226 => some (!y1226)) else some false)) else some false))).bind fun m1212 => (bif m1212 then some false else some s1132))).bind fun m1192 => some (.next m1192))
def ref03_Lattice_Join.b0 (k : Nat) (p0 : Option Tref03_Lattice) (p1 : Int) (p2 : Int) (y3 : Tref03_Lattice) (i633 : Nat) (x634 : ByteArray) (s623 : Unit) : Option (Step Int Unit) :=
  ((((ref03_Lattice_Leq k p0 p1 (i633 : Int)).bind fun y1235 => (bif !y1235 then some true else ((ref03_Lattice_Leq k p0 p2 (i633 : Int)).bind fun y1240 => some (!y1240))))).bind fun m958 => (bif m958 then ref03_Lattice_Join.j1 k () else ((forL (ref03_Lattice_Join.b2 k p0 p1 p2 i633) 0 y3.Names true).bind (Lr.k (fun r => some (.ret r)) (fun s1137 => (bif s1137 then some (.ret (i633 : Int)) else ref03_Lattice_Join.j1 k ()))))))
def ref03_Lattice_Join (k : Nat) (p0 : Option Tref03_Lattice) (p1 : Int) (p2 : Int) : Option (Int) :=
  (optE p0 none fun y3 => ((forL (ref03_Lattice_Join.b0 k p0 p1 p2 y3) 0 y3.Names ()).bind (Lr.k (fun r => some r) (fun s628 => some (-1 : Int)))))
def ref03_Lattice_Meet.j1 (k : Nat) (m943 : Unit) : Option (Step Int Unit) :=
  some (.next ())
def ref03_Lattice_Meet.b2 (k : Nat) (p0 : Option Tref03_Lattice) (p1 : Int) (p2 : Int) (i633 : Nat) (i1144 : Nat) (x1145 : ByteArray) (s1132 : Bool) : Option (Step Int Bool) :=
  ((((((ref03_Lattice_Leq k p0 (i1144 : Int) p1).bind fun y1216 => (bif y1216 then ((ref03_Lattice_Leq k p0 (i1144 : Int) p2).bind fun y1221 => (bif y1221 then ((ref03_Lattice_Leq k p0 (i1144 : Int) (i633 : Int)).bind fun y1226 => some (!y1226)) else some false)) else some false))).bind fun m1212 => (bif m1212 then some false else some s1132))).bind fun m1192 => some (.next m1192))
def ref03_Lattice_Meet.b0 (k : Nat) (p0 : Option Tref03_Lattice) (p1 : Int) (p2 : Int) (y3 : Tref03_Lattice) (i633 : Nat) (x634 : ByteArray) (s623 : Unit) : Option (Step Int Unit) :=
  ((((ref03_Lattice_Leq k p0 (i633 : Int) p1).bind fun y1235 => (bif !y1235 then some true else ((ref03_Lattice_Leq k p0 (i633 : Int) p2).bind fun y1240 => some (!y1240))))).bind fun m958 => (bif m958 then ref03_Lattice_Meet.j1 k () else ((forL (ref03_Lattice_Meet.b2 k p0 p1 p2 i633) 0 y3.Names true).bind (Lr.k (fun r => some (.ret r)) (fun s1137 => (bif s1137 then some (.ret (i633 : Int)) else ref03_Lattice_Meet.j1 k ()))))))
def ref03_Lattice_Meet (k : Nat) (p0 : Option Tref03_Lattice) (p1 : Int) (p2 : Int) : Option (Int) :=
  (optE p0 none fun y3 => ((forL (ref03_Lattice_Meet.b0 k p0 p1 p2 y3) 0 y3.Names ()).bind (Lr.k (fun r => some r) (fun s628 => some (-1 : Int)))))
def ref03_Find.b0 (k : Nat) (p1 : ByteArray) (i26 : Nat) (x27 : ByteArray) (s16 : Unit) : Option (Step Int Unit) :=
  (bif decide (x27 = p1) then some (.ret (i26 : Int)) else some (.next ()))
def ref03_Find (k : Nat) (p0 : List ByteArray) (p1 : ByteArray) : Option (Int) :=
  ((forL (ref03_Find.b0 k p1) 0 p0 ()).bind (Lr.k (fun r => some r) (fun s21 => some (-1 : Int))))
def ref03_New.b1 (k : Nat) (i3944 : Nat) (s3641 : (List (List Bool))) (p0 : List ByteArray) (i4069 : Nat) (x4070 : ByteArray) (s4059 : Unit) : Option (Step ((Option Tref03_Lattice) × Int) Unit) :=
  (((bif !decide ((i3944 : Int) = (i4069 : Int)) then ((getO s3641 (i3944 : Int)).bind fun y4148 => ((getO y4148 (i4069 : Int)).bind fun y4158 => (bif y4158 then ((getO s3641 (i4069 : Int)).bind fun y4166 => ((getO y4166 (i3944 : Int)).bind fun y4176 => some y4176)) else some false))) else some false)).bind fun m4114 => (bif m4114 then some (.ret ((none : Option Tref03_Lattice), (12 : Int))) else ((((ref03_Lattice_Join k (some (Tref03_Lattice.mk (([] : List ByteArray) ++ p0) s3641)) (i3944 : Int) (i4069 : Int)).bind fun y4133 => (bif decide (y4133 < (0 : Int)) then some true else ((ref03_Lattice_Meet k (some (Tref03_Lattice.mk (([] : List ByteArray) ++ p0) s3641)) (i3944 : Int) (i4069 : Int)).bind fun y4138 => some (decide (y4138 < (0 : Int))))))).bind fun m4129 => (bif m4129 then some (.ret ((none : Option Tref03_Lattice), (12 : Int))) else some (.next ())))))
def ref03_New.b0 (k : Nat) (s3641 : (List (List Bool))) (p0 : List ByteArray) (i3944 : Nat) (x3945 : ByteArray) (s3934 : Unit) : Option (Step ((Option Tref03_Lattice) × Int) Unit) :=
  ((forL (ref03_New.b1 k i3944 s3641 p0) 0 p0 ()).bind (Lr.k (fun r => some (.ret r)) (fun s4064 => some (.next ()))))
def ref03_New.b4 (k : Nat) (p0 : List ByteArray) (i5235 : Nat) (x5236 : TPair) (s5215 : (List Bool) × (List Bool)) : Option (Step ((Option Tref03_Lattice) × Int) ((List Bool) × (List Bool))) :=
  ((((ref03_Find k p0 x5236.Low).bind fun y5304 => ((getO s5215.2 y5304).bind fun y5308 => (bif y5308 then ((ref03_Find k p0 x5236.High).bind fun y5322 => ((getO s5215.1 y5322).bind fun y5326 => some ((setO s5215.1 y5322 true), s5215.2))) else some (s5215.1, s5215.2))))).bind fun m5293 => some (.next (m5293.1, m5293.2)))
def ref03_New.b3 (k : Nat) (p0 : List ByteArray) (p1 : List TPair) (i4959 : Nat) (x4960 : ByteArray) (s4925 : (List Bool)) : Option (Step ((Option Tref03_Lattice) × Int) (List Bool)) :=
  ((lim (([] : List Bool).length + s4925.length)).bind fun _ => ((forL (ref03_New.b4 k p0) 0 p1 ((([] : List Bool) ++ s4925), s4925)).bind (Lr.k (fun r => some (.ret r)) (fun s5220 => some (.next s5220.1)))))
def ref03_New.b2 (k : Nat) (p0 : List ByteArray) (p1 : List TPair) (i4182 : Nat) (x4183 : ByteArray) (s3636 : (List (List Bool))) : Option (Step ((Option Tref03_Lattice) × Int) (List (List Bool))) :=
  ((mkO (p0.length : Int) false).bind fun z4189 => ((getO z4189 (i4182 : Int)).bind fun y4194 => ((forL (ref03_New.b3 k p0 p1) 0 p0 (setO z4189 (i4182 : Int) true)).bind (Lr.k (fun r => some (.ret r)) (fun s4930 => ((lim (s3636.length + ([s4930]).length)).bind fun _ => some (.next (s3636 ++ [s4930]))))))))
def ref03_New.b5 (k : Nat) (p0 : List ByteArray) (i5338 : Nat) (x5339 : TPair) (s136 : Unit) : Option (Step ((Option Tref03_Lattice) × Int) Unit) :=
  ((((ref03_Find k p0 x5339.Low).bind fun y5377 => (bif decide (y5377 < (0 : Int)) then some true else ((ref03_Find k p0 x5339.High).bind fun y5387 => some (decide (y5387 < (0 : Int))))))).bind fun m5368 => (bif m5368 then some (.ret ((none : Option Tref03_Lattice), (11 : Int))) else some (.next ())))
def ref03_New.b6 (k : Nat) (p0 : List ByteArray) (i5393 : Nat) (x5394 : ByteArray) (s77 : Unit) : Option (Step ((Option Tref03_Lattice) × Int) Unit) :=
  (((bif decide (x5394 = (⟨#[]⟩ : ByteArray)) then some true else (bif decide ((30 : Int) < (x5394.size : Int)) then some true else ((cutO p0 (0 : Int) (i5393 : Int)).bind fun z5445 => ((ref03_Find k z5445 x5394).bind fun y5456 => some (decide ((0 : Int) ≤ y5456))))))).bind fun m5429 => (bif m5429 then some (.ret ((none : Option Tref03_Lattice), (11 : Int))) else some (.next ())))
def ref03_New (k : Nat) (p0 : List ByteArray) (p1 : List TPair) : Option ((Option Tref03_Lattice) × Int) :=
  (((bif decide ((16 : Int) < (p0.length : Int)) then some true else some (decide ((64 : Int) < (p1.length : Int))))).bind fun m10 => (bif m10 then some ((none : Option Tref03_Lattice), (8 : Int)) else ((forL (ref03_New.b6 k p0) 0 p0 ()).bind (Lr.k (fun r => some r) (fun s82 => ((forL (ref03_New.b5 k p0) 0 p1 ()).bind (Lr.k (fun r => some r) (fun s141 => ((lim (([] : List ByteArray).length + p0.length)).bind fun _ => ((forL (ref03_New.b2 k p0 p1) 0 p0 ([] : List (List Bool))).bind (Lr.k (fun r => some r) (fun s3641 => (bif decide ((p0.length : Int) = (0 : Int)) then some ((none : Option Tref03_Lattice), (12 : Int)) else ((forL (ref03_New.b0 k s3641 p0) 0 p0 ()).bind (Lr.k (fun r => some r) (fun s3939 => some ((some (Tref03_Lattice.mk (([] : List ByteArray) ++ p0) s3641)), (0 : Int))))))))))))))))))
def ref03_Ints.b0 (k : Nat) (p1 : List Int) (i37 : Nat) (x38 : Int) (s27 : Unit) : Option (Step Bool Unit) :=
  ((getO p1 (i37 : Int)).bind fun y55 => (bif !decide (x38 = y55) then some (.ret false) else some (.next ())))
def ref03_Ints (k : Nat) (p0 : List Int) (p1 : List Int) : Option (Bool) :=
  (bif !decide ((p0.length : Int) = (p1.length : Int)) then some false else ((forL (ref03_Ints.b0 k p1) 0 p0 ()).bind (Lr.k (fun r => some r) (fun s32 => some true))))
def math_bits_TrailingZeros32 (k : Nat) (p0 : Int) : Option (Int) :=
  (bif decide (p0 = (0 : Int)) then some (32 : Int) else ((shrO .u32 (IntKind.wrap .u32 ((IntKind.wrap .u32 ((BitVec.ofInt (IntKind.bits .u32) p0) &&& (BitVec.ofInt (IntKind.bits .u32) (IntKind.wrap .u32 (0 - p0)))).toNat) * (125613361 : Int))) (27 : Int)).bind fun z3 => ((inB 32 z3).bind fun _ => some (w64 (gt0.getD z3.toNat 0)))))
def lattice_Lattice_Above.b0 (k : Nat) (s128 : (List Int) × Int) : Option (Step (List Int) ((List Int) × Int)) :=
  (bif !decide (s128.2 = (0 : Int)) then ((math_bits_TrailingZeros32 k s128.2).bind fun y159 => ((lim (s128.1.length + ([y159]).length)).bind fun _ => some (.next ((s128.1 ++ [y159]), IntKind.wrap .u32 ((BitVec.ofInt (IntKind.bits .u32) s128.2) &&& (BitVec.ofInt (IntKind.bits .u32) (IntKind.wrap .u32 (s128.2 - (1 : Int))))).toNat)))) else some (.brk (s128.1, s128.2)))
def lattice_Lattice_Above (k : Nat) (p0 : Option Tlattice_Lattice) (p1 : Int) : Option ((List Int)) :=
  ((lattice_Lattice_is k p0 p1).bind fun y4 => (bif !y4 then some [] else (optE p0 none fun y13 => ((getO y13.up_ p1).bind fun y33 => ((whileL (lattice_Lattice_Above.b0 k) k (([] : List Int), y33)).bind (Lr.k (fun r => some r) (fun s133 => some s133.1)))))))
def ref03_Lattice_Above.b0 (k : Nat) (p0 : Option Tref03_Lattice) (p1 : Int) (i237 : Nat) (x238 : ByteArray) (s219 : (List Int)) : Option (Step (List Int) (List Int)) :=
  ((((ref03_Lattice_Leq k p0 p1 (i237 : Int)).bind fun y276 => (bif y276 then ((lim (s219.length + ([(i237 : Int)]).length)).bind fun _ => some ((s219 ++ [(i237 : Int)]))) else some s219))).bind fun m272 => some (.next m272))
def ref03_Lattice_Above (k : Nat) (p0 : Option Tref03_Lattice) (p1 : Int) : Option ((List Int)) :=
  (optE p0 none fun y3 => ((forL (ref03_Lattice_Above.b0 k p0 p1) 0 y3.Names ([] : List Int)).bind (Lr.k (fun r => some r) (fun s224 => some s224))))
def law03_LatticeTables.b1 (k : Nat) (y21 : (Option Tlattice_Lattice) × Int) (i275 : Nat) (y31 : (Option Tref03_Lattice) × Int) (i358 : Nat) (x359 : ByteArray) (s348 : Unit) : Option (Step Bool Unit) :=
  ((((lattice_Lattice_Leq k y21.1 (i275 : Int) (i358 : Int)).bind fun y400 => ((ref03_Lattice_Leq k y31.1 (i275 : Int) (i358 : Int)).bind fun y404 => (bif !(y400 == y404) then some true else ((lattice_Lattice_Join k y21.1 (i275 : Int) (i358 : Int)).bind fun y409 => ((ref03_Lattice_Join k y31.1 (i275 : Int) (i358 : Int)).bind fun y413 => (bif !decide (y409 = y413) then some true else ((lattice_Lattice_Meet k y21.1 (i275 : Int) (i358 : Int)).bind fun y418 => ((ref03_Lattice_Meet k y31.1 (i275 : Int) (i358 : Int)).bind fun y422 => some (!decide (y418 = y422))))))))))).bind fun m396 => (bif m396 then some (.ret false) else some (.next ())))
def law03_LatticeTables.b0 (k : Nat) (y21 : (Option Tlattice_Lattice) × Int) (y31 : (Option Tref03_Lattice) × Int) (p0 : List ByteArray) (i275 : Nat) (x276 : ByteArray) (s260 : Unit) : Option (Step Bool Unit) :=
  ((forL (law03_LatticeTables.b1 k y21 i275 y31) 0 p0 ()).bind (Lr.k (fun r => some (.ret r)) (fun s353 => some (.next ()))))
def law03_LatticeTables (k : Nat) (p0 : List ByteArray) (p1 : List TPair) (p2 : Int) (p3 : Int) : Option (Bool) :=
  ((law03_Few k p0 p1).bind fun y8 => (bif !y8 then ((law03_alive k ).bind fun y13 => some y13) else ((lattice_New k p0 p1).bind fun y21 => ((ref03_New k p0 p1).bind fun y31 => (((bif !decide (y21.2 = (0 : Int)) then some true else some (!decide (y31.2 = (0 : Int))))).bind fun m40 => (bif m40 then (((bif decide (y21.2 = y31.2) then ((law03_alive k ).bind fun y54 => some y54) else some false)).bind fun m50 => some m50) else ((((lattice_Lattice_Leq k y21.1 p2 p3).bind fun y427 => ((ref03_Lattice_Leq k y31.1 p2 p3).bind fun y431 => (bif !(y427 == y431) then some true else ((lattice_Lattice_Join k y21.1 p2 p3).bind fun y436 => ((ref03_Lattice_Join k y31.1 p2 p3).bind fun y440 => (bif !decide (y436 = y440) then some true else ((lattice_Lattice_Meet k y21.1 p2 p3).bind fun y445 => ((ref03_Lattice_Meet k y31.1 p2 p3).bind fun y449 => (bif !decide (y445 = y449) then some true else ((lattice_Lattice_Above k y21.1 p2).bind fun y454 => ((ref03_Lattice_Above k y31.1 p2).bind fun y461 => ((ref03_Ints k y454 y461).bind fun y468 => some (!y468)))))))))))))).bind fun m108 => (bif m108 then some false else ((forL (law03_LatticeTables.b0 k y21 y31 p0) 0 p0 ()).bind (Lr.k (fun r => some r) (fun s265 => ((law03_alive k ).bind fun y269 => some y269))))))))))))
def lattice_Lattice_Find (k : Nat) (p0 : Option Tlattice_Lattice) (p1 : ByteArray) : Option (Int × Bool) :=
  (bif p0.isNone then some ((0 : Int), false) else (optE p0 none fun y6 => some (((mget y6.at_ p1).getD (0 : Int)), (mget y6.at_ p1).isSome)))
def lattice_Lattice_Levels (k : Nat) (p0 : Option Tlattice_Lattice) : Option ((List ByteArray)) :=
  (bif p0.isNone then some [] else (optE p0 none fun y12 => ((slices_Clone_string_string k y12.names_).bind fun y28 => some y28)))
def lattice_Lattice_Bottom.b0 (k : Nat) (y12 : Tlattice_Lattice) (i58 : Nat) (x59 : ByteArray) (s47 : Int) : Option (Step Int Int) :=
  ((inB 16 s47).bind fun _ => ((inB 16 (i58 : Int)).bind fun _ => some (.next (y12.meet_.getD (s47.toNat * 16 + (i58 : Int).toNat * 1) 0))))
def lattice_Lattice_Bottom (k : Nat) (p0 : Option Tlattice_Lattice) : Option (Int) :=
  ((lattice_Lattice_is k p0 (0 : Int)).bind fun y4 => (bif !y4 then some (-1 : Int) else (optE p0 none fun y12 => ((forL (lattice_Lattice_Bottom.b0 k y12) 0 y12.names_ (0 : Int)).bind (Lr.k (fun r => some r) (fun s52 => some s52))))))
def lattice_Lattice_Top.b0 (k : Nat) (y12 : Tlattice_Lattice) (i58 : Nat) (x59 : ByteArray) (s47 : Int) : Option (Step Int Int) :=
  ((inB 16 s47).bind fun _ => ((inB 16 (i58 : Int)).bind fun _ => some (.next (y12.join_.getD (s47.toNat * 16 + (i58 : Int).toNat * 1) 0))))
def lattice_Lattice_Top (k : Nat) (p0 : Option Tlattice_Lattice) : Option (Int) :=
  ((lattice_Lattice_is k p0 (0 : Int)).bind fun y4 => (bif !y4 then some (-1 : Int) else (optE p0 none fun y12 => ((forL (lattice_Lattice_Top.b0 k y12) 0 y12.names_ (0 : Int)).bind (Lr.k (fun r => some r) (fun s52 => some s52))))))
def law03_LatticeNil (k : Nat) (p0 : ByteArray) (p1 : Int) (p2 : Int) : Option (Bool) :=
  ((lattice_Lattice_Find k (none : Option Tlattice_Lattice) p0).bind fun y3 => (((bif !y3.2 then ((lattice_Lattice_Levels k (none : Option Tlattice_Lattice)).bind fun y58 => ((lattice_Lattice_Above k (none : Option Tlattice_Lattice) p1).bind fun y65 => (bif decide ((w64 ((y58.length : Int) + (y65.length : Int))) = (0 : Int)) then ((lattice_Lattice_Leq k (none : Option Tlattice_Lattice) p1 p2).bind fun y73 => (bif !y73 then ((lattice_Lattice_Join k (none : Option Tlattice_Lattice) p1 p2).bind fun y78 => (bif decide (y78 = (-1 : Int)) then ((lattice_Lattice_Meet k (none : Option Tlattice_Lattice) p1 p2).bind fun y83 => (bif decide (y83 = (-1 : Int)) then ((lattice_Lattice_Bottom k (none : Option Tlattice_Lattice)).bind fun y88 => (bif decide (y88 = (-1 : Int)) then ((lattice_Lattice_Top k (none : Option Tlattice_Lattice)).bind fun y93 => (bif decide (y93 = (-1 : Int)) then ((law03_alive k ).bind fun y98 => some y98) else some false)) else some false)) else some false)) else some false)) else some false)) else some false))) else some false)).bind fun m54 => some m54))

theorem law03_Few.b0.mono (k : Nat) (i65 : Nat) (x66 : TPair) (s48 : Unit) : LeO (law03_Few.b0 k i65 x66 s48) (law03_Few.b0 (k + 1) i65 x66 s48) := by
  unfold law03_Few.b0
  repeat' (with_reducible first
    | assumption
    | refine LeO.bind ?_ (fun _ => ?_)
    | refine LeO.cond ?_ ?_
    | refine LeO.optE ?_ (fun _ => ?_) _
    | refine LeO.lrk (fun _ => ?_) (fun _ => ?_) _
    | refine LeO.forL (fun _ _ _ => ?_) _ _ _
    | refine LeO.whileL (fun _ => ?_) _ _
    | exact LeO.refl _)
theorem law03_Few.b1.mono (k : Nat) (i90 : Nat) (x91 : ByteArray) (s19 : Unit) : LeO (law03_Few.b1 k i90 x91 s19) (law03_Few.b1 (k + 1) i90 x91 s19) := by
  unfold law03_Few.b1
  repeat' (with_reducible first
    | assumption
    | refine LeO.bind ?_ (fun _ => ?_)
    | refine LeO.cond ?_ ?_
    | refine LeO.optE ?_ (fun _ => ?_) _
    | refine LeO.lrk (fun _ => ?_) (fun _ => ?_) _
    | refine LeO.forL (fun _ _ _ => ?_) _ _ _
    | refine LeO.whileL (fun _ => ?_) _ _
    | exact law03_Few.b0.mono k _ _ _
    | exact LeO.refl _)
theorem law03_Few.mono (k : Nat) (p0 : List ByteArray) (p1 : List TPair) : LeO (law03_Few k p0 p1) (law03_Few (k + 1) p0 p1) := by
  unfold law03_Few
  repeat' (with_reducible first
    | assumption
    | refine LeO.bind ?_ (fun _ => ?_)
    | refine LeO.cond ?_ ?_
    | refine LeO.optE ?_ (fun _ => ?_) _
    | refine LeO.lrk (fun _ => ?_) (fun _ => ?_) _
    | refine LeO.forL (fun _ _ _ => ?_) _ _ _
    | refine LeO.whileL (fun _ => ?_) _ _
    | exact law03_Few.b0.mono k _ _ _
    | exact law03_Few.b1.mono k _ _ _
    | exact LeO.refl _)
theorem slices_Clone_string_string.mono (k : Nat) (p0 : List ByteArray) : LeO (slices_Clone_string_string k p0) (slices_Clone_string_string (k + 1) p0) := by
  unfold slices_Clone_string_string
  repeat' (with_reducible first
    | assumption
    | refine LeO.bind ?_ (fun _ => ?_)
    | refine LeO.cond ?_ ?_
    | refine LeO.optE ?_ (fun _ => ?_) _
    | refine LeO.lrk (fun _ => ?_) (fun _ => ?_) _
    | refine LeO.forL (fun _ _ _ => ?_) _ _ _
    | refine LeO.whileL (fun _ => ?_) _ _
    | exact LeO.refl _)
theorem lattice_Lattice_named.b0.mono (k : Nat) (p0 : Tlattice_Lattice) (i284 : Nat) (x285 : ByteArray) (s260 : (List (ByteArray × Int)) × (List Int) × (List Int)) : LeO (lattice_Lattice_named.b0 k p0 i284 x285 s260) (lattice_Lattice_named.b0 (k + 1) p0 i284 x285 s260) := by
  unfold lattice_Lattice_named.b0
  repeat' (with_reducible first
    | assumption
    | refine LeO.bind ?_ (fun _ => ?_)
    | refine LeO.cond ?_ ?_
    | refine LeO.optE ?_ (fun _ => ?_) _
    | refine LeO.lrk (fun _ => ?_) (fun _ => ?_) _
    | refine LeO.forL (fun _ _ _ => ?_) _ _ _
    | refine LeO.whileL (fun _ => ?_) _ _
    | exact LeO.refl _)
theorem lattice_Lattice_named.mono (k : Nat) (p0 : Tlattice_Lattice) : LeO (lattice_Lattice_named k p0) (lattice_Lattice_named (k + 1) p0) := by
  unfold lattice_Lattice_named
  repeat' (with_reducible first
    | assumption
    | refine LeO.bind ?_ (fun _ => ?_)
    | refine LeO.cond ?_ ?_
    | refine LeO.optE ?_ (fun _ => ?_) _
    | refine LeO.lrk (fun _ => ?_) (fun _ => ?_) _
    | refine LeO.forL (fun _ _ _ => ?_) _ _ _
    | refine LeO.whileL (fun _ => ?_) _ _
    | exact lattice_Lattice_named.b0.mono k _ _ _ _
    | exact LeO.refl _)
theorem lattice_set_has.mono (k : Nat) (p0 : Int) (p1 : Int) : LeO (lattice_set_has k p0 p1) (lattice_set_has (k + 1) p0 p1) := by
  unfold lattice_set_has
  repeat' (with_reducible first
    | assumption
    | refine LeO.bind ?_ (fun _ => ?_)
    | refine LeO.cond ?_ ?_
    | refine LeO.optE ?_ (fun _ => ?_) _
    | refine LeO.lrk (fun _ => ?_) (fun _ => ?_) _
    | refine LeO.forL (fun _ _ _ => ?_) _ _ _
    | refine LeO.whileL (fun _ => ?_) _ _
    | exact LeO.refl _)
theorem lattice_Lattice_edges.b2.mono (k : Nat) (i8032 : Nat) (i8373 : Nat) (x8374 : Int) (s8353 : (List Int) × (List Int)) : LeO (lattice_Lattice_edges.b2 k i8032 i8373 x8374 s8353) (lattice_Lattice_edges.b2 (k + 1) i8032 i8373 x8374 s8353) := by
  unfold lattice_Lattice_edges.b2
  repeat' (with_reducible first
    | assumption
    | refine LeO.bind ?_ (fun _ => ?_)
    | refine LeO.cond ?_ ?_
    | refine LeO.optE ?_ (fun _ => ?_) _
    | refine LeO.lrk (fun _ => ?_) (fun _ => ?_) _
    | refine LeO.forL (fun _ _ _ => ?_) _ _ _
    | refine LeO.whileL (fun _ => ?_) _ _
    | exact lattice_set_has.mono k _ _
    | exact LeO.refl _)
theorem lattice_Lattice_edges.b1.mono (k : Nat) (i8032 : Nat) (x8033 : Int) (s8012 : (List Int) × (List Int)) : LeO (lattice_Lattice_edges.b1 k i8032 x8033 s8012) (lattice_Lattice_edges.b1 (k + 1) i8032 x8033 s8012) := by
  unfold lattice_Lattice_edges.b1
  repeat' (with_reducible first
    | assumption
    | refine LeO.bind ?_ (fun _ => ?_)
    | refine LeO.cond ?_ ?_
    | refine LeO.optE ?_ (fun _ => ?_) _
    | refine LeO.lrk (fun _ => ?_) (fun _ => ?_) _
    | refine LeO.forL (fun _ _ _ => ?_) _ _ _
    | refine LeO.whileL (fun _ => ?_) _ _
    | exact lattice_set_has.mono k _ _
    | exact lattice_Lattice_edges.b2.mono k _ _ _ _
    | exact LeO.refl _)
theorem lattice_Lattice_edges.b4.mono (k : Nat) (y8526 : Int) (i8513 : Nat) (i8840 : Nat) (x8841 : Int) (s8812 : (List Int)) : LeO (lattice_Lattice_edges.b4 k y8526 i8513 i8840 x8841 s8812) (lattice_Lattice_edges.b4 (k + 1) y8526 i8513 i8840 x8841 s8812) := by
  unfold lattice_Lattice_edges.b4
  repeat' (with_reducible first
    | assumption
    | refine LeO.bind ?_ (fun _ => ?_)
    | refine LeO.cond ?_ ?_
    | refine LeO.optE ?_ (fun _ => ?_) _
    | refine LeO.lrk (fun _ => ?_) (fun _ => ?_) _
    | refine LeO.forL (fun _ _ _ => ?_) _ _ _
    | refine LeO.whileL (fun _ => ?_) _ _
    | exact lattice_set_has.mono k _ _
    | exact lattice_Lattice_edges.b2.mono k _ _ _ _
    | exact lattice_Lattice_edges.b1.mono k _ _ _
    | exact LeO.refl _)
theorem lattice_Lattice_edges.b3.mono (k : Nat) (i8513 : Nat) (x8514 : Int) (s7004 : (List Int)) : LeO (lattice_Lattice_edges.b3 k i8513 x8514 s7004) (lattice_Lattice_edges.b3 (k + 1) i8513 x8514 s7004) := by
  unfold lattice_Lattice_edges.b3
  repeat' (with_reducible first
    | assumption
    | refine LeO.bind ?_ (fun _ => ?_)
    | refine LeO.cond ?_ ?_
    | refine LeO.optE ?_ (fun _ => ?_) _
    | refine LeO.lrk (fun _ => ?_) (fun _ => ?_) _
    | refine LeO.forL (fun _ _ _ => ?_) _ _ _
    | refine LeO.whileL (fun _ => ?_) _ _
    | exact lattice_set_has.mono k _ _
    | exact lattice_Lattice_edges.b2.mono k _ _ _ _
    | exact lattice_Lattice_edges.b1.mono k _ _ _
    | exact lattice_Lattice_edges.b4.mono k _ _ _ _ _
    | exact LeO.refl _)
theorem lattice_Lattice_edges.b0.mono (k : Nat) (p0 : Tlattice_Lattice) (s6045 : (List Int)) : LeO (lattice_Lattice_edges.b0 k p0 s6045) (lattice_Lattice_edges.b0 (k + 1) p0 s6045) := by
  unfold lattice_Lattice_edges.b0
  repeat' (with_reducible first
    | assumption
    | refine LeO.bind ?_ (fun _ => ?_)
    | refine LeO.cond ?_ ?_
    | refine LeO.optE ?_ (fun _ => ?_) _
    | refine LeO.lrk (fun _ => ?_) (fun _ => ?_) _
    | refine LeO.forL (fun _ _ _ => ?_) _ _ _
    | refine LeO.whileL (fun _ => ?_) _ _
    | exact lattice_set_has.mono k _ _
    | exact lattice_Lattice_edges.b2.mono k _ _ _ _
    | exact lattice_Lattice_edges.b1.mono k _ _ _
    | exact lattice_Lattice_edges.b4.mono k _ _ _ _ _
    | exact lattice_Lattice_edges.b3.mono k _ _ _
    | exact LeO.refl _)
theorem lattice_Lattice_edges.b5.mono (k : Nat) (p0 : Tlattice_Lattice) (i8975 : Nat) (x8976 : TPair) (s193 : (List Int)) : LeO (lattice_Lattice_edges.b5 k p0 i8975 x8976 s193) (lattice_Lattice_edges.b5 (k + 1) p0 i8975 x8976 s193) := by
  unfold lattice_Lattice_edges.b5
  repeat' (with_reducible first
    | assumption
    | refine LeO.bind ?_ (fun _ => ?_)
    | refine LeO.cond ?_ ?_
    | refine LeO.optE ?_ (fun _ => ?_) _
    | refine LeO.lrk (fun _ => ?_) (fun _ => ?_) _
    | refine LeO.forL (fun _ _ _ => ?_) _ _ _
    | refine LeO.whileL (fun _ => ?_) _ _
    | exact lattice_set_has.mono k _ _
    | exact lattice_Lattice_edges.b2.mono k _ _ _ _
    | exact lattice_Lattice_edges.b1.mono k _ _ _
    | exact lattice_Lattice_edges.b4.mono k _ _ _ _ _
    | exact lattice_Lattice_edges.b3.mono k _ _ _
    | exact lattice_Lattice_edges.b0.mono k _ _
    | exact LeO.refl _)
theorem lattice_Lattice_edges.mono (k : Nat) (p0 : Tlattice_Lattice) (p1 : List TPair) : LeO (lattice_Lattice_edges k p0 p1) (lattice_Lattice_edges (k + 1) p0 p1) := by
  unfold lattice_Lattice_edges
  repeat' (with_reducible first
    | assumption
    | refine LeO.bind ?_ (fun _ => ?_)
    | refine LeO.cond ?_ ?_
    | refine LeO.optE ?_ (fun _ => ?_) _
    | refine LeO.lrk (fun _ => ?_) (fun _ => ?_) _
    | refine LeO.forL (fun _ _ _ => ?_) _ _ _
    | refine LeO.whileL (fun _ => ?_) _ _
    | exact lattice_set_has.mono k _ _
    | exact lattice_Lattice_edges.b2.mono k _ _ _ _
    | exact lattice_Lattice_edges.b1.mono k _ _ _
    | exact lattice_Lattice_edges.b4.mono k _ _ _ _ _
    | exact lattice_Lattice_edges.b3.mono k _ _ _
    | exact lattice_Lattice_edges.b0.mono k _ _
    | exact lattice_Lattice_edges.b5.mono k _ _ _ _
    | exact LeO.refl _)
theorem lattice_least.b0.mono (k : Nat) (p0 : Int) (i42 : Nat) (x43 : Int) (s32 : Unit) : LeO (lattice_least.b0 k p0 i42 x43 s32) (lattice_least.b0 (k + 1) p0 i42 x43 s32) := by
  unfold lattice_least.b0
  repeat' (with_reducible first
    | assumption
    | refine LeO.bind ?_ (fun _ => ?_)
    | refine LeO.cond ?_ ?_
    | refine LeO.optE ?_ (fun _ => ?_) _
    | refine LeO.lrk (fun _ => ?_) (fun _ => ?_) _
    | refine LeO.forL (fun _ _ _ => ?_) _ _ _
    | refine LeO.whileL (fun _ => ?_) _ _
    | exact lattice_set_has.mono k _ _
    | exact LeO.refl _)
theorem lattice_least.mono (k : Nat) (p0 : Int) (p1 : List Int) : LeO (lattice_least k p0 p1) (lattice_least (k + 1) p0 p1) := by
  unfold lattice_least
  repeat' (with_reducible first
    | assumption
    | refine LeO.bind ?_ (fun _ => ?_)
    | refine LeO.cond ?_ ?_
    | refine LeO.optE ?_ (fun _ => ?_) _
    | refine LeO.lrk (fun _ => ?_) (fun _ => ?_) _
    | refine LeO.forL (fun _ _ _ => ?_) _ _ _
    | refine LeO.whileL (fun _ => ?_) _ _
    | exact lattice_set_has.mono k _ _
    | exact lattice_least.b0.mono k _ _ _ _
    | exact LeO.refl _)
theorem lattice_Lattice_tables.b1.mono (k : Nat) (i902 : Nat) (p0 : Tlattice_Lattice) (i1210 : Nat) (x1211 : ByteArray) (s1198 : (List Int) × (List Int)) : LeO (lattice_Lattice_tables.b1 k i902 p0 i1210 x1211 s1198) (lattice_Lattice_tables.b1 (k + 1) i902 p0 i1210 x1211 s1198) := by
  unfold lattice_Lattice_tables.b1
  repeat' (with_reducible first
    | assumption
    | refine LeO.bind ?_ (fun _ => ?_)
    | refine LeO.cond ?_ ?_
    | refine LeO.optE ?_ (fun _ => ?_) _
    | refine LeO.lrk (fun _ => ?_) (fun _ => ?_) _
    | refine LeO.forL (fun _ _ _ => ?_) _ _ _
    | refine LeO.whileL (fun _ => ?_) _ _
    | exact lattice_set_has.mono k _ _
    | exact lattice_least.mono k _ _
    | exact LeO.refl _)
theorem lattice_Lattice_tables.b0.mono (k : Nat) (p0 : Tlattice_Lattice) (i902 : Nat) (x903 : ByteArray) (s886 : (List Int) × (List Int)) : LeO (lattice_Lattice_tables.b0 k p0 i902 x903 s886) (lattice_Lattice_tables.b0 (k + 1) p0 i902 x903 s886) := by
  unfold lattice_Lattice_tables.b0
  repeat' (with_reducible first
    | assumption
    | refine LeO.bind ?_ (fun _ => ?_)
    | refine LeO.cond ?_ ?_
    | refine LeO.optE ?_ (fun _ => ?_) _
    | refine LeO.lrk (fun _ => ?_) (fun _ => ?_) _
    | refine LeO.forL (fun _ _ _ => ?_) _ _ _
    | refine LeO.whileL (fun _ => ?_) _ _
    | exact lattice_set_has.mono k _ _
    | exact lattice_least.mono k _ _
    | exact lattice_Lattice_tables.b1.mono k _ _ _ _ _
    | exact LeO.refl _)
theorem lattice_Lattice_tables.mono (k : Nat) (p0 : Tlattice_Lattice) : LeO (lattice_Lattice_tables k p0) (lattice_Lattice_tables (k + 1) p0) := by
  unfold lattice_Lattice_tables
  repeat' (with_reducible first
    | assumption
    | refine LeO.bind ?_ (fun _ => ?_)
    | refine LeO.cond ?_ ?_
    | refine LeO.optE ?_ (fun _ => ?_) _
    | refine LeO.lrk (fun _ => ?_) (fun _ => ?_) _
    | refine LeO.forL (fun _ _ _ => ?_) _ _ _
    | refine LeO.whileL (fun _ => ?_) _ _
    | exact lattice_set_has.mono k _ _
    | exact lattice_least.mono k _ _
    | exact lattice_Lattice_tables.b1.mono k _ _ _ _ _
    | exact lattice_Lattice_tables.b0.mono k _ _ _ _
    | exact LeO.refl _)
theorem lattice_New.mono (k : Nat) (p0 : List ByteArray) (p1 : List TPair) : LeO (lattice_New k p0 p1) (lattice_New (k + 1) p0 p1) := by
  unfold lattice_New
  repeat' (with_reducible first
    | assumption
    | refine LeO.bind ?_ (fun _ => ?_)
    | refine LeO.cond ?_ ?_
    | refine LeO.optE ?_ (fun _ => ?_) _
    | refine LeO.lrk (fun _ => ?_) (fun _ => ?_) _
    | refine LeO.forL (fun _ _ _ => ?_) _ _ _
    | refine LeO.whileL (fun _ => ?_) _ _
    | exact slices_Clone_string_string.mono k _
    | exact lattice_Lattice_named.mono k _
    | exact lattice_Lattice_edges.mono k _ _
    | exact lattice_Lattice_tables.mono k _
    | exact LeO.refl _)
theorem lattice_Lattice_is.mono (k : Nat) (p0 : Option Tlattice_Lattice) (p1 : Int) : LeO (lattice_Lattice_is k p0 p1) (lattice_Lattice_is (k + 1) p0 p1) := by
  unfold lattice_Lattice_is
  repeat' (with_reducible first
    | assumption
    | refine LeO.bind ?_ (fun _ => ?_)
    | refine LeO.cond ?_ ?_
    | refine LeO.optE ?_ (fun _ => ?_) _
    | refine LeO.lrk (fun _ => ?_) (fun _ => ?_) _
    | refine LeO.forL (fun _ _ _ => ?_) _ _ _
    | refine LeO.whileL (fun _ => ?_) _ _
    | exact LeO.refl _)
theorem lattice_Lattice_Leq.mono (k : Nat) (p0 : Option Tlattice_Lattice) (p1 : Int) (p2 : Int) : LeO (lattice_Lattice_Leq k p0 p1 p2) (lattice_Lattice_Leq (k + 1) p0 p1 p2) := by
  unfold lattice_Lattice_Leq
  repeat' (with_reducible first
    | assumption
    | refine LeO.bind ?_ (fun _ => ?_)
    | refine LeO.cond ?_ ?_
    | refine LeO.optE ?_ (fun _ => ?_) _
    | refine LeO.lrk (fun _ => ?_) (fun _ => ?_) _
    | refine LeO.forL (fun _ _ _ => ?_) _ _ _
    | refine LeO.whileL (fun _ => ?_) _ _
    | exact lattice_Lattice_is.mono k _ _
    | exact lattice_set_has.mono k _ _
    | exact LeO.refl _)
theorem lattice_Lattice_Join.mono (k : Nat) (p0 : Option Tlattice_Lattice) (p1 : Int) (p2 : Int) : LeO (lattice_Lattice_Join k p0 p1 p2) (lattice_Lattice_Join (k + 1) p0 p1 p2) := by
  unfold lattice_Lattice_Join
  repeat' (with_reducible first
    | assumption
    | refine LeO.bind ?_ (fun _ => ?_)
    | refine LeO.cond ?_ ?_
    | refine LeO.optE ?_ (fun _ => ?_) _
    | refine LeO.lrk (fun _ => ?_) (fun _ => ?_) _
    | refine LeO.forL (fun _ _ _ => ?_) _ _ _
    | refine LeO.whileL (fun _ => ?_) _ _
    | exact lattice_Lattice_is.mono k _ _
    | exact LeO.refl _)
theorem lattice_Lattice_Meet.mono (k : Nat) (p0 : Option Tlattice_Lattice) (p1 : Int) (p2 : Int) : LeO (lattice_Lattice_Meet k p0 p1 p2) (lattice_Lattice_Meet (k + 1) p0 p1 p2) := by
  unfold lattice_Lattice_Meet
  repeat' (with_reducible first
    | assumption
    | refine LeO.bind ?_ (fun _ => ?_)
    | refine LeO.cond ?_ ?_
    | refine LeO.optE ?_ (fun _ => ?_) _
    | refine LeO.lrk (fun _ => ?_) (fun _ => ?_) _
    | refine LeO.forL (fun _ _ _ => ?_) _ _ _
    | refine LeO.whileL (fun _ => ?_) _ _
    | exact lattice_Lattice_is.mono k _ _
    | exact LeO.refl _)
theorem law03_diamond.mono (k : Nat) : LeO (law03_diamond k ) (law03_diamond (k + 1) ) := by
  unfold law03_diamond
  repeat' (with_reducible first
    | assumption
    | refine LeO.bind ?_ (fun _ => ?_)
    | refine LeO.cond ?_ ?_
    | refine LeO.optE ?_ (fun _ => ?_) _
    | refine LeO.lrk (fun _ => ?_) (fun _ => ?_) _
    | refine LeO.forL (fun _ _ _ => ?_) _ _ _
    | refine LeO.whileL (fun _ => ?_) _ _
    | exact LeO.refl _)
theorem law03_alive.mono (k : Nat) : LeO (law03_alive k ) (law03_alive (k + 1) ) := by
  unfold law03_alive
  repeat' (with_reducible first
    | assumption
    | refine LeO.bind ?_ (fun _ => ?_)
    | refine LeO.cond ?_ ?_
    | refine LeO.optE ?_ (fun _ => ?_) _
    | refine LeO.lrk (fun _ => ?_) (fun _ => ?_) _
    | refine LeO.forL (fun _ _ _ => ?_) _ _ _
    | refine LeO.whileL (fun _ => ?_) _ _
    | exact lattice_New.mono k _ _
    | exact lattice_Lattice_Leq.mono k _ _ _
    | exact lattice_Lattice_Join.mono k _ _ _
    | exact lattice_Lattice_Meet.mono k _ _ _
    | exact law03_diamond.mono k
    | exact LeO.refl _)
theorem ref03_Lattice_Is.mono (k : Nat) (p0 : Option Tref03_Lattice) (p1 : Int) : LeO (ref03_Lattice_Is k p0 p1) (ref03_Lattice_Is (k + 1) p0 p1) := by
  unfold ref03_Lattice_Is
  repeat' (with_reducible first
    | assumption
    | refine LeO.bind ?_ (fun _ => ?_)
    | refine LeO.cond ?_ ?_
    | refine LeO.optE ?_ (fun _ => ?_) _
    | refine LeO.lrk (fun _ => ?_) (fun _ => ?_) _
    | refine LeO.forL (fun _ _ _ => ?_) _ _ _
    | refine LeO.whileL (fun _ => ?_) _ _
    | exact LeO.refl _)
theorem ref03_Lattice_Leq.mono (k : Nat) (p0 : Option Tref03_Lattice) (p1 : Int) (p2 : Int) : LeO (ref03_Lattice_Leq k p0 p1 p2) (ref03_Lattice_Leq (k + 1) p0 p1 p2) := by
  unfold ref03_Lattice_Leq
  repeat' (with_reducible first
    | assumption
    | refine LeO.bind ?_ (fun _ => ?_)
    | refine LeO.cond ?_ ?_
    | refine LeO.optE ?_ (fun _ => ?_) _
    | refine LeO.lrk (fun _ => ?_) (fun _ => ?_) _
    | refine LeO.forL (fun _ _ _ => ?_) _ _ _
    | refine LeO.whileL (fun _ => ?_) _ _
    | exact ref03_Lattice_Is.mono k _ _
    | exact LeO.refl _)
theorem ref03_Lattice_Join.j1.mono (k : Nat) (m943 : Unit) : LeO (ref03_Lattice_Join.j1 k m943) (ref03_Lattice_Join.j1 (k + 1) m943) := by
  unfold ref03_Lattice_Join.j1
  repeat' (with_reducible first
    | assumption
    | refine LeO.bind ?_ (fun _ => ?_)
    | refine LeO.cond ?_ ?_
    | refine LeO.optE ?_ (fun _ => ?_) _
    | refine LeO.lrk (fun _ => ?_) (fun _ => ?_) _
    | refine LeO.forL (fun _ _ _ => ?_) _ _ _
    | refine LeO.whileL (fun _ => ?_) _ _
    | exact ref03_Lattice_Leq.mono k _ _ _
    | exact LeO.refl _)
theorem ref03_Lattice_Join.b2.mono (k : Nat) (p0 : Option Tref03_Lattice) (p1 : Int) (p2 : Int) (i633 : Nat) (i1144 : Nat) (x1145 : ByteArray) (s1132 : Bool) : LeO (ref03_Lattice_Join.b2 k p0 p1 p2 i633 i1144 x1145 s1132) (ref03_Lattice_Join.b2 (k + 1) p0 p1 p2 i633 i1144 x1145 s1132) := by
  unfold ref03_Lattice_Join.b2
  repeat' (with_reducible first
    | assumption
    | refine LeO.bind ?_ (fun _ => ?_)
    | refine LeO.cond ?_ ?_
    | refine LeO.optE ?_ (fun _ => ?_) _
    | refine LeO.lrk (fun _ => ?_) (fun _ => ?_) _
    | refine LeO.forL (fun _ _ _ => ?_) _ _ _
    | refine LeO.whileL (fun _ => ?_) _ _
    | exact ref03_Lattice_Leq.mono k _ _ _
    | exact ref03_Lattice_Join.j1.mono k _
    | exact LeO.refl _)
theorem ref03_Lattice_Join.b0.mono (k : Nat) (p0 : Option Tref03_Lattice) (p1 : Int) (p2 : Int) (y3 : Tref03_Lattice) (i633 : Nat) (x634 : ByteArray) (s623 : Unit) : LeO (ref03_Lattice_Join.b0 k p0 p1 p2 y3 i633 x634 s623) (ref03_Lattice_Join.b0 (k + 1) p0 p1 p2 y3 i633 x634 s623) := by
  unfold ref03_Lattice_Join.b0
  repeat' (with_reducible first
    | assumption
    | refine LeO.bind ?_ (fun _ => ?_)
    | refine LeO.cond ?_ ?_
    | refine LeO.optE ?_ (fun _ => ?_) _
    | refine LeO.lrk (fun _ => ?_) (fun _ => ?_) _
    | refine LeO.forL (fun _ _ _ => ?_) _ _ _
    | refine LeO.whileL (fun _ => ?_) _ _
    | exact ref03_Lattice_Leq.mono k _ _ _
    | exact ref03_Lattice_Join.j1.mono k _
    | exact ref03_Lattice_Join.b2.mono k _ _ _ _ _ _ _
    | exact LeO.refl _)
theorem ref03_Lattice_Join.mono (k : Nat) (p0 : Option Tref03_Lattice) (p1 : Int) (p2 : Int) : LeO (ref03_Lattice_Join k p0 p1 p2) (ref03_Lattice_Join (k + 1) p0 p1 p2) := by
  unfold ref03_Lattice_Join
  repeat' (with_reducible first
    | assumption
    | refine LeO.bind ?_ (fun _ => ?_)
    | refine LeO.cond ?_ ?_
    | refine LeO.optE ?_ (fun _ => ?_) _
    | refine LeO.lrk (fun _ => ?_) (fun _ => ?_) _
    | refine LeO.forL (fun _ _ _ => ?_) _ _ _
    | refine LeO.whileL (fun _ => ?_) _ _
    | exact ref03_Lattice_Leq.mono k _ _ _
    | exact ref03_Lattice_Join.j1.mono k _
    | exact ref03_Lattice_Join.b2.mono k _ _ _ _ _ _ _
    | exact ref03_Lattice_Join.b0.mono k _ _ _ _ _ _ _
    | exact LeO.refl _)
theorem ref03_Lattice_Meet.j1.mono (k : Nat) (m943 : Unit) : LeO (ref03_Lattice_Meet.j1 k m943) (ref03_Lattice_Meet.j1 (k + 1) m943) := by
  unfold ref03_Lattice_Meet.j1
  repeat' (with_reducible first
    | assumption
    | refine LeO.bind ?_ (fun _ => ?_)
    | refine LeO.cond ?_ ?_
    | refine LeO.optE ?_ (fun _ => ?_) _
    | refine LeO.lrk (fun _ => ?_) (fun _ => ?_) _
    | refine LeO.forL (fun _ _ _ => ?_) _ _ _
    | refine LeO.whileL (fun _ => ?_) _ _
    | exact ref03_Lattice_Leq.mono k _ _ _
    | exact LeO.refl _)
theorem ref03_Lattice_Meet.b2.mono (k : Nat) (p0 : Option Tref03_Lattice) (p1 : Int) (p2 : Int) (i633 : Nat) (i1144 : Nat) (x1145 : ByteArray) (s1132 : Bool) : LeO (ref03_Lattice_Meet.b2 k p0 p1 p2 i633 i1144 x1145 s1132) (ref03_Lattice_Meet.b2 (k + 1) p0 p1 p2 i633 i1144 x1145 s1132) := by
  unfold ref03_Lattice_Meet.b2
  repeat' (with_reducible first
    | assumption
    | refine LeO.bind ?_ (fun _ => ?_)
    | refine LeO.cond ?_ ?_
    | refine LeO.optE ?_ (fun _ => ?_) _
    | refine LeO.lrk (fun _ => ?_) (fun _ => ?_) _
    | refine LeO.forL (fun _ _ _ => ?_) _ _ _
    | refine LeO.whileL (fun _ => ?_) _ _
    | exact ref03_Lattice_Leq.mono k _ _ _
    | exact ref03_Lattice_Meet.j1.mono k _
    | exact LeO.refl _)
theorem ref03_Lattice_Meet.b0.mono (k : Nat) (p0 : Option Tref03_Lattice) (p1 : Int) (p2 : Int) (y3 : Tref03_Lattice) (i633 : Nat) (x634 : ByteArray) (s623 : Unit) : LeO (ref03_Lattice_Meet.b0 k p0 p1 p2 y3 i633 x634 s623) (ref03_Lattice_Meet.b0 (k + 1) p0 p1 p2 y3 i633 x634 s623) := by
  unfold ref03_Lattice_Meet.b0
  repeat' (with_reducible first
    | assumption
    | refine LeO.bind ?_ (fun _ => ?_)
    | refine LeO.cond ?_ ?_
    | refine LeO.optE ?_ (fun _ => ?_) _
    | refine LeO.lrk (fun _ => ?_) (fun _ => ?_) _
    | refine LeO.forL (fun _ _ _ => ?_) _ _ _
    | refine LeO.whileL (fun _ => ?_) _ _
    | exact ref03_Lattice_Leq.mono k _ _ _
    | exact ref03_Lattice_Meet.j1.mono k _
    | exact ref03_Lattice_Meet.b2.mono k _ _ _ _ _ _ _
    | exact LeO.refl _)
theorem ref03_Lattice_Meet.mono (k : Nat) (p0 : Option Tref03_Lattice) (p1 : Int) (p2 : Int) : LeO (ref03_Lattice_Meet k p0 p1 p2) (ref03_Lattice_Meet (k + 1) p0 p1 p2) := by
  unfold ref03_Lattice_Meet
  repeat' (with_reducible first
    | assumption
    | refine LeO.bind ?_ (fun _ => ?_)
    | refine LeO.cond ?_ ?_
    | refine LeO.optE ?_ (fun _ => ?_) _
    | refine LeO.lrk (fun _ => ?_) (fun _ => ?_) _
    | refine LeO.forL (fun _ _ _ => ?_) _ _ _
    | refine LeO.whileL (fun _ => ?_) _ _
    | exact ref03_Lattice_Leq.mono k _ _ _
    | exact ref03_Lattice_Meet.j1.mono k _
    | exact ref03_Lattice_Meet.b2.mono k _ _ _ _ _ _ _
    | exact ref03_Lattice_Meet.b0.mono k _ _ _ _ _ _ _
    | exact LeO.refl _)
theorem ref03_Find.b0.mono (k : Nat) (p1 : ByteArray) (i26 : Nat) (x27 : ByteArray) (s16 : Unit) : LeO (ref03_Find.b0 k p1 i26 x27 s16) (ref03_Find.b0 (k + 1) p1 i26 x27 s16) := by
  unfold ref03_Find.b0
  repeat' (with_reducible first
    | assumption
    | refine LeO.bind ?_ (fun _ => ?_)
    | refine LeO.cond ?_ ?_
    | refine LeO.optE ?_ (fun _ => ?_) _
    | refine LeO.lrk (fun _ => ?_) (fun _ => ?_) _
    | refine LeO.forL (fun _ _ _ => ?_) _ _ _
    | refine LeO.whileL (fun _ => ?_) _ _
    | exact LeO.refl _)
theorem ref03_Find.mono (k : Nat) (p0 : List ByteArray) (p1 : ByteArray) : LeO (ref03_Find k p0 p1) (ref03_Find (k + 1) p0 p1) := by
  unfold ref03_Find
  repeat' (with_reducible first
    | assumption
    | refine LeO.bind ?_ (fun _ => ?_)
    | refine LeO.cond ?_ ?_
    | refine LeO.optE ?_ (fun _ => ?_) _
    | refine LeO.lrk (fun _ => ?_) (fun _ => ?_) _
    | refine LeO.forL (fun _ _ _ => ?_) _ _ _
    | refine LeO.whileL (fun _ => ?_) _ _
    | exact ref03_Find.b0.mono k _ _ _ _
    | exact LeO.refl _)
theorem ref03_New.b1.mono (k : Nat) (i3944 : Nat) (s3641 : (List (List Bool))) (p0 : List ByteArray) (i4069 : Nat) (x4070 : ByteArray) (s4059 : Unit) : LeO (ref03_New.b1 k i3944 s3641 p0 i4069 x4070 s4059) (ref03_New.b1 (k + 1) i3944 s3641 p0 i4069 x4070 s4059) := by
  unfold ref03_New.b1
  repeat' (with_reducible first
    | assumption
    | refine LeO.bind ?_ (fun _ => ?_)
    | refine LeO.cond ?_ ?_
    | refine LeO.optE ?_ (fun _ => ?_) _
    | refine LeO.lrk (fun _ => ?_) (fun _ => ?_) _
    | refine LeO.forL (fun _ _ _ => ?_) _ _ _
    | refine LeO.whileL (fun _ => ?_) _ _
    | exact ref03_Lattice_Join.mono k _ _ _
    | exact ref03_Lattice_Meet.mono k _ _ _
    | exact ref03_Find.mono k _ _
    | exact LeO.refl _)
theorem ref03_New.b0.mono (k : Nat) (s3641 : (List (List Bool))) (p0 : List ByteArray) (i3944 : Nat) (x3945 : ByteArray) (s3934 : Unit) : LeO (ref03_New.b0 k s3641 p0 i3944 x3945 s3934) (ref03_New.b0 (k + 1) s3641 p0 i3944 x3945 s3934) := by
  unfold ref03_New.b0
  repeat' (with_reducible first
    | assumption
    | refine LeO.bind ?_ (fun _ => ?_)
    | refine LeO.cond ?_ ?_
    | refine LeO.optE ?_ (fun _ => ?_) _
    | refine LeO.lrk (fun _ => ?_) (fun _ => ?_) _
    | refine LeO.forL (fun _ _ _ => ?_) _ _ _
    | refine LeO.whileL (fun _ => ?_) _ _
    | exact ref03_Lattice_Join.mono k _ _ _
    | exact ref03_Lattice_Meet.mono k _ _ _
    | exact ref03_Find.mono k _ _
    | exact ref03_New.b1.mono k _ _ _ _ _ _
    | exact LeO.refl _)
theorem ref03_New.b4.mono (k : Nat) (p0 : List ByteArray) (i5235 : Nat) (x5236 : TPair) (s5215 : (List Bool) × (List Bool)) : LeO (ref03_New.b4 k p0 i5235 x5236 s5215) (ref03_New.b4 (k + 1) p0 i5235 x5236 s5215) := by
  unfold ref03_New.b4
  repeat' (with_reducible first
    | assumption
    | refine LeO.bind ?_ (fun _ => ?_)
    | refine LeO.cond ?_ ?_
    | refine LeO.optE ?_ (fun _ => ?_) _
    | refine LeO.lrk (fun _ => ?_) (fun _ => ?_) _
    | refine LeO.forL (fun _ _ _ => ?_) _ _ _
    | refine LeO.whileL (fun _ => ?_) _ _
    | exact ref03_Lattice_Join.mono k _ _ _
    | exact ref03_Lattice_Meet.mono k _ _ _
    | exact ref03_Find.mono k _ _
    | exact ref03_New.b1.mono k _ _ _ _ _ _
    | exact ref03_New.b0.mono k _ _ _ _ _
    | exact LeO.refl _)
theorem ref03_New.b3.mono (k : Nat) (p0 : List ByteArray) (p1 : List TPair) (i4959 : Nat) (x4960 : ByteArray) (s4925 : (List Bool)) : LeO (ref03_New.b3 k p0 p1 i4959 x4960 s4925) (ref03_New.b3 (k + 1) p0 p1 i4959 x4960 s4925) := by
  unfold ref03_New.b3
  repeat' (with_reducible first
    | assumption
    | refine LeO.bind ?_ (fun _ => ?_)
    | refine LeO.cond ?_ ?_
    | refine LeO.optE ?_ (fun _ => ?_) _
    | refine LeO.lrk (fun _ => ?_) (fun _ => ?_) _
    | refine LeO.forL (fun _ _ _ => ?_) _ _ _
    | refine LeO.whileL (fun _ => ?_) _ _
    | exact ref03_Lattice_Join.mono k _ _ _
    | exact ref03_Lattice_Meet.mono k _ _ _
    | exact ref03_Find.mono k _ _
    | exact ref03_New.b1.mono k _ _ _ _ _ _
    | exact ref03_New.b0.mono k _ _ _ _ _
    | exact ref03_New.b4.mono k _ _ _ _
    | exact LeO.refl _)
theorem ref03_New.b2.mono (k : Nat) (p0 : List ByteArray) (p1 : List TPair) (i4182 : Nat) (x4183 : ByteArray) (s3636 : (List (List Bool))) : LeO (ref03_New.b2 k p0 p1 i4182 x4183 s3636) (ref03_New.b2 (k + 1) p0 p1 i4182 x4183 s3636) := by
  unfold ref03_New.b2
  repeat' (with_reducible first
    | assumption
    | refine LeO.bind ?_ (fun _ => ?_)
    | refine LeO.cond ?_ ?_
    | refine LeO.optE ?_ (fun _ => ?_) _
    | refine LeO.lrk (fun _ => ?_) (fun _ => ?_) _
    | refine LeO.forL (fun _ _ _ => ?_) _ _ _
    | refine LeO.whileL (fun _ => ?_) _ _
    | exact ref03_Lattice_Join.mono k _ _ _
    | exact ref03_Lattice_Meet.mono k _ _ _
    | exact ref03_Find.mono k _ _
    | exact ref03_New.b1.mono k _ _ _ _ _ _
    | exact ref03_New.b0.mono k _ _ _ _ _
    | exact ref03_New.b4.mono k _ _ _ _
    | exact ref03_New.b3.mono k _ _ _ _ _
    | exact LeO.refl _)
theorem ref03_New.b5.mono (k : Nat) (p0 : List ByteArray) (i5338 : Nat) (x5339 : TPair) (s136 : Unit) : LeO (ref03_New.b5 k p0 i5338 x5339 s136) (ref03_New.b5 (k + 1) p0 i5338 x5339 s136) := by
  unfold ref03_New.b5
  repeat' (with_reducible first
    | assumption
    | refine LeO.bind ?_ (fun _ => ?_)
    | refine LeO.cond ?_ ?_
    | refine LeO.optE ?_ (fun _ => ?_) _
    | refine LeO.lrk (fun _ => ?_) (fun _ => ?_) _
    | refine LeO.forL (fun _ _ _ => ?_) _ _ _
    | refine LeO.whileL (fun _ => ?_) _ _
    | exact ref03_Lattice_Join.mono k _ _ _
    | exact ref03_Lattice_Meet.mono k _ _ _
    | exact ref03_Find.mono k _ _
    | exact ref03_New.b1.mono k _ _ _ _ _ _
    | exact ref03_New.b0.mono k _ _ _ _ _
    | exact ref03_New.b4.mono k _ _ _ _
    | exact ref03_New.b3.mono k _ _ _ _ _
    | exact ref03_New.b2.mono k _ _ _ _ _
    | exact LeO.refl _)
theorem ref03_New.b6.mono (k : Nat) (p0 : List ByteArray) (i5393 : Nat) (x5394 : ByteArray) (s77 : Unit) : LeO (ref03_New.b6 k p0 i5393 x5394 s77) (ref03_New.b6 (k + 1) p0 i5393 x5394 s77) := by
  unfold ref03_New.b6
  repeat' (with_reducible first
    | assumption
    | refine LeO.bind ?_ (fun _ => ?_)
    | refine LeO.cond ?_ ?_
    | refine LeO.optE ?_ (fun _ => ?_) _
    | refine LeO.lrk (fun _ => ?_) (fun _ => ?_) _
    | refine LeO.forL (fun _ _ _ => ?_) _ _ _
    | refine LeO.whileL (fun _ => ?_) _ _
    | exact ref03_Lattice_Join.mono k _ _ _
    | exact ref03_Lattice_Meet.mono k _ _ _
    | exact ref03_Find.mono k _ _
    | exact ref03_New.b1.mono k _ _ _ _ _ _
    | exact ref03_New.b0.mono k _ _ _ _ _
    | exact ref03_New.b4.mono k _ _ _ _
    | exact ref03_New.b3.mono k _ _ _ _ _
    | exact ref03_New.b2.mono k _ _ _ _ _
    | exact ref03_New.b5.mono k _ _ _ _
    | exact LeO.refl _)
theorem ref03_New.mono (k : Nat) (p0 : List ByteArray) (p1 : List TPair) : LeO (ref03_New k p0 p1) (ref03_New (k + 1) p0 p1) := by
  unfold ref03_New
  repeat' (with_reducible first
    | assumption
    | refine LeO.bind ?_ (fun _ => ?_)
    | refine LeO.cond ?_ ?_
    | refine LeO.optE ?_ (fun _ => ?_) _
    | refine LeO.lrk (fun _ => ?_) (fun _ => ?_) _
    | refine LeO.forL (fun _ _ _ => ?_) _ _ _
    | refine LeO.whileL (fun _ => ?_) _ _
    | exact ref03_Lattice_Join.mono k _ _ _
    | exact ref03_Lattice_Meet.mono k _ _ _
    | exact ref03_Find.mono k _ _
    | exact ref03_New.b1.mono k _ _ _ _ _ _
    | exact ref03_New.b0.mono k _ _ _ _ _
    | exact ref03_New.b4.mono k _ _ _ _
    | exact ref03_New.b3.mono k _ _ _ _ _
    | exact ref03_New.b2.mono k _ _ _ _ _
    | exact ref03_New.b5.mono k _ _ _ _
    | exact ref03_New.b6.mono k _ _ _ _
    | exact LeO.refl _)
theorem ref03_Ints.b0.mono (k : Nat) (p1 : List Int) (i37 : Nat) (x38 : Int) (s27 : Unit) : LeO (ref03_Ints.b0 k p1 i37 x38 s27) (ref03_Ints.b0 (k + 1) p1 i37 x38 s27) := by
  unfold ref03_Ints.b0
  repeat' (with_reducible first
    | assumption
    | refine LeO.bind ?_ (fun _ => ?_)
    | refine LeO.cond ?_ ?_
    | refine LeO.optE ?_ (fun _ => ?_) _
    | refine LeO.lrk (fun _ => ?_) (fun _ => ?_) _
    | refine LeO.forL (fun _ _ _ => ?_) _ _ _
    | refine LeO.whileL (fun _ => ?_) _ _
    | exact LeO.refl _)
theorem ref03_Ints.mono (k : Nat) (p0 : List Int) (p1 : List Int) : LeO (ref03_Ints k p0 p1) (ref03_Ints (k + 1) p0 p1) := by
  unfold ref03_Ints
  repeat' (with_reducible first
    | assumption
    | refine LeO.bind ?_ (fun _ => ?_)
    | refine LeO.cond ?_ ?_
    | refine LeO.optE ?_ (fun _ => ?_) _
    | refine LeO.lrk (fun _ => ?_) (fun _ => ?_) _
    | refine LeO.forL (fun _ _ _ => ?_) _ _ _
    | refine LeO.whileL (fun _ => ?_) _ _
    | exact ref03_Ints.b0.mono k _ _ _ _
    | exact LeO.refl _)
theorem math_bits_TrailingZeros32.mono (k : Nat) (p0 : Int) : LeO (math_bits_TrailingZeros32 k p0) (math_bits_TrailingZeros32 (k + 1) p0) := by
  unfold math_bits_TrailingZeros32
  repeat' (with_reducible first
    | assumption
    | refine LeO.bind ?_ (fun _ => ?_)
    | refine LeO.cond ?_ ?_
    | refine LeO.optE ?_ (fun _ => ?_) _
    | refine LeO.lrk (fun _ => ?_) (fun _ => ?_) _
    | refine LeO.forL (fun _ _ _ => ?_) _ _ _
    | refine LeO.whileL (fun _ => ?_) _ _
    | exact LeO.refl _)
theorem lattice_Lattice_Above.b0.mono (k : Nat) (s128 : (List Int) × Int) : LeO (lattice_Lattice_Above.b0 k s128) (lattice_Lattice_Above.b0 (k + 1) s128) := by
  unfold lattice_Lattice_Above.b0
  repeat' (with_reducible first
    | assumption
    | refine LeO.bind ?_ (fun _ => ?_)
    | refine LeO.cond ?_ ?_
    | refine LeO.optE ?_ (fun _ => ?_) _
    | refine LeO.lrk (fun _ => ?_) (fun _ => ?_) _
    | refine LeO.forL (fun _ _ _ => ?_) _ _ _
    | refine LeO.whileL (fun _ => ?_) _ _
    | exact lattice_Lattice_is.mono k _ _
    | exact math_bits_TrailingZeros32.mono k _
    | exact LeO.refl _)
theorem lattice_Lattice_Above.mono (k : Nat) (p0 : Option Tlattice_Lattice) (p1 : Int) : LeO (lattice_Lattice_Above k p0 p1) (lattice_Lattice_Above (k + 1) p0 p1) := by
  unfold lattice_Lattice_Above
  repeat' (with_reducible first
    | assumption
    | refine LeO.bind ?_ (fun _ => ?_)
    | refine LeO.cond ?_ ?_
    | refine LeO.optE ?_ (fun _ => ?_) _
    | refine LeO.lrk (fun _ => ?_) (fun _ => ?_) _
    | refine LeO.forL (fun _ _ _ => ?_) _ _ _
    | refine LeO.whileL (fun _ => ?_) _ _
    | exact lattice_Lattice_is.mono k _ _
    | exact math_bits_TrailingZeros32.mono k _
    | exact lattice_Lattice_Above.b0.mono k _
    | exact LeO.refl _)
theorem ref03_Lattice_Above.b0.mono (k : Nat) (p0 : Option Tref03_Lattice) (p1 : Int) (i237 : Nat) (x238 : ByteArray) (s219 : (List Int)) : LeO (ref03_Lattice_Above.b0 k p0 p1 i237 x238 s219) (ref03_Lattice_Above.b0 (k + 1) p0 p1 i237 x238 s219) := by
  unfold ref03_Lattice_Above.b0
  repeat' (with_reducible first
    | assumption
    | refine LeO.bind ?_ (fun _ => ?_)
    | refine LeO.cond ?_ ?_
    | refine LeO.optE ?_ (fun _ => ?_) _
    | refine LeO.lrk (fun _ => ?_) (fun _ => ?_) _
    | refine LeO.forL (fun _ _ _ => ?_) _ _ _
    | refine LeO.whileL (fun _ => ?_) _ _
    | exact ref03_Lattice_Leq.mono k _ _ _
    | exact LeO.refl _)
theorem ref03_Lattice_Above.mono (k : Nat) (p0 : Option Tref03_Lattice) (p1 : Int) : LeO (ref03_Lattice_Above k p0 p1) (ref03_Lattice_Above (k + 1) p0 p1) := by
  unfold ref03_Lattice_Above
  repeat' (with_reducible first
    | assumption
    | refine LeO.bind ?_ (fun _ => ?_)
    | refine LeO.cond ?_ ?_
    | refine LeO.optE ?_ (fun _ => ?_) _
    | refine LeO.lrk (fun _ => ?_) (fun _ => ?_) _
    | refine LeO.forL (fun _ _ _ => ?_) _ _ _
    | refine LeO.whileL (fun _ => ?_) _ _
    | exact ref03_Lattice_Leq.mono k _ _ _
    | exact ref03_Lattice_Above.b0.mono k _ _ _ _ _
    | exact LeO.refl _)
theorem law03_LatticeTables.b1.mono (k : Nat) (y21 : (Option Tlattice_Lattice) × Int) (i275 : Nat) (y31 : (Option Tref03_Lattice) × Int) (i358 : Nat) (x359 : ByteArray) (s348 : Unit) : LeO (law03_LatticeTables.b1 k y21 i275 y31 i358 x359 s348) (law03_LatticeTables.b1 (k + 1) y21 i275 y31 i358 x359 s348) := by
  unfold law03_LatticeTables.b1
  repeat' (with_reducible first
    | assumption
    | refine LeO.bind ?_ (fun _ => ?_)
    | refine LeO.cond ?_ ?_
    | refine LeO.optE ?_ (fun _ => ?_) _
    | refine LeO.lrk (fun _ => ?_) (fun _ => ?_) _
    | refine LeO.forL (fun _ _ _ => ?_) _ _ _
    | refine LeO.whileL (fun _ => ?_) _ _
    | exact law03_Few.mono k _ _
    | exact law03_alive.mono k
    | exact lattice_New.mono k _ _
    | exact ref03_New.mono k _ _
    | exact lattice_Lattice_Leq.mono k _ _ _
    | exact ref03_Lattice_Leq.mono k _ _ _
    | exact lattice_Lattice_Join.mono k _ _ _
    | exact ref03_Lattice_Join.mono k _ _ _
    | exact lattice_Lattice_Meet.mono k _ _ _
    | exact ref03_Lattice_Meet.mono k _ _ _
    | exact ref03_Ints.mono k _ _
    | exact lattice_Lattice_Above.mono k _ _
    | exact ref03_Lattice_Above.mono k _ _
    | exact LeO.refl _)
theorem law03_LatticeTables.b0.mono (k : Nat) (y21 : (Option Tlattice_Lattice) × Int) (y31 : (Option Tref03_Lattice) × Int) (p0 : List ByteArray) (i275 : Nat) (x276 : ByteArray) (s260 : Unit) : LeO (law03_LatticeTables.b0 k y21 y31 p0 i275 x276 s260) (law03_LatticeTables.b0 (k + 1) y21 y31 p0 i275 x276 s260) := by
  unfold law03_LatticeTables.b0
  repeat' (with_reducible first
    | assumption
    | refine LeO.bind ?_ (fun _ => ?_)
    | refine LeO.cond ?_ ?_
    | refine LeO.optE ?_ (fun _ => ?_) _
    | refine LeO.lrk (fun _ => ?_) (fun _ => ?_) _
    | refine LeO.forL (fun _ _ _ => ?_) _ _ _
    | refine LeO.whileL (fun _ => ?_) _ _
    | exact law03_Few.mono k _ _
    | exact law03_alive.mono k
    | exact lattice_New.mono k _ _
    | exact ref03_New.mono k _ _
    | exact lattice_Lattice_Leq.mono k _ _ _
    | exact ref03_Lattice_Leq.mono k _ _ _
    | exact lattice_Lattice_Join.mono k _ _ _
    | exact ref03_Lattice_Join.mono k _ _ _
    | exact lattice_Lattice_Meet.mono k _ _ _
    | exact ref03_Lattice_Meet.mono k _ _ _
    | exact ref03_Ints.mono k _ _
    | exact lattice_Lattice_Above.mono k _ _
    | exact ref03_Lattice_Above.mono k _ _
    | exact law03_LatticeTables.b1.mono k _ _ _ _ _ _
    | exact LeO.refl _)
theorem law03_LatticeTables.mono (k : Nat) (p0 : List ByteArray) (p1 : List TPair) (p2 : Int) (p3 : Int) : LeO (law03_LatticeTables k p0 p1 p2 p3) (law03_LatticeTables (k + 1) p0 p1 p2 p3) := by
  unfold law03_LatticeTables
  repeat' (with_reducible first
    | assumption
    | refine LeO.bind ?_ (fun _ => ?_)
    | refine LeO.cond ?_ ?_
    | refine LeO.optE ?_ (fun _ => ?_) _
    | refine LeO.lrk (fun _ => ?_) (fun _ => ?_) _
    | refine LeO.forL (fun _ _ _ => ?_) _ _ _
    | refine LeO.whileL (fun _ => ?_) _ _
    | exact law03_Few.mono k _ _
    | exact law03_alive.mono k
    | exact lattice_New.mono k _ _
    | exact ref03_New.mono k _ _
    | exact lattice_Lattice_Leq.mono k _ _ _
    | exact ref03_Lattice_Leq.mono k _ _ _
    | exact lattice_Lattice_Join.mono k _ _ _
    | exact ref03_Lattice_Join.mono k _ _ _
    | exact lattice_Lattice_Meet.mono k _ _ _
    | exact ref03_Lattice_Meet.mono k _ _ _
    | exact ref03_Ints.mono k _ _
    | exact lattice_Lattice_Above.mono k _ _
    | exact ref03_Lattice_Above.mono k _ _
    | exact law03_LatticeTables.b1.mono k _ _ _ _ _ _
    | exact law03_LatticeTables.b0.mono k _ _ _ _ _ _
    | exact LeO.refl _)
theorem lattice_Lattice_Find.mono (k : Nat) (p0 : Option Tlattice_Lattice) (p1 : ByteArray) : LeO (lattice_Lattice_Find k p0 p1) (lattice_Lattice_Find (k + 1) p0 p1) := by
  unfold lattice_Lattice_Find
  repeat' (with_reducible first
    | assumption
    | refine LeO.bind ?_ (fun _ => ?_)
    | refine LeO.cond ?_ ?_
    | refine LeO.optE ?_ (fun _ => ?_) _
    | refine LeO.lrk (fun _ => ?_) (fun _ => ?_) _
    | refine LeO.forL (fun _ _ _ => ?_) _ _ _
    | refine LeO.whileL (fun _ => ?_) _ _
    | exact LeO.refl _)
theorem lattice_Lattice_Levels.mono (k : Nat) (p0 : Option Tlattice_Lattice) : LeO (lattice_Lattice_Levels k p0) (lattice_Lattice_Levels (k + 1) p0) := by
  unfold lattice_Lattice_Levels
  repeat' (with_reducible first
    | assumption
    | refine LeO.bind ?_ (fun _ => ?_)
    | refine LeO.cond ?_ ?_
    | refine LeO.optE ?_ (fun _ => ?_) _
    | refine LeO.lrk (fun _ => ?_) (fun _ => ?_) _
    | refine LeO.forL (fun _ _ _ => ?_) _ _ _
    | refine LeO.whileL (fun _ => ?_) _ _
    | exact slices_Clone_string_string.mono k _
    | exact LeO.refl _)
theorem lattice_Lattice_Bottom.b0.mono (k : Nat) (y12 : Tlattice_Lattice) (i58 : Nat) (x59 : ByteArray) (s47 : Int) : LeO (lattice_Lattice_Bottom.b0 k y12 i58 x59 s47) (lattice_Lattice_Bottom.b0 (k + 1) y12 i58 x59 s47) := by
  unfold lattice_Lattice_Bottom.b0
  repeat' (with_reducible first
    | assumption
    | refine LeO.bind ?_ (fun _ => ?_)
    | refine LeO.cond ?_ ?_
    | refine LeO.optE ?_ (fun _ => ?_) _
    | refine LeO.lrk (fun _ => ?_) (fun _ => ?_) _
    | refine LeO.forL (fun _ _ _ => ?_) _ _ _
    | refine LeO.whileL (fun _ => ?_) _ _
    | exact lattice_Lattice_is.mono k _ _
    | exact LeO.refl _)
theorem lattice_Lattice_Bottom.mono (k : Nat) (p0 : Option Tlattice_Lattice) : LeO (lattice_Lattice_Bottom k p0) (lattice_Lattice_Bottom (k + 1) p0) := by
  unfold lattice_Lattice_Bottom
  repeat' (with_reducible first
    | assumption
    | refine LeO.bind ?_ (fun _ => ?_)
    | refine LeO.cond ?_ ?_
    | refine LeO.optE ?_ (fun _ => ?_) _
    | refine LeO.lrk (fun _ => ?_) (fun _ => ?_) _
    | refine LeO.forL (fun _ _ _ => ?_) _ _ _
    | refine LeO.whileL (fun _ => ?_) _ _
    | exact lattice_Lattice_is.mono k _ _
    | exact lattice_Lattice_Bottom.b0.mono k _ _ _ _
    | exact LeO.refl _)
theorem lattice_Lattice_Top.b0.mono (k : Nat) (y12 : Tlattice_Lattice) (i58 : Nat) (x59 : ByteArray) (s47 : Int) : LeO (lattice_Lattice_Top.b0 k y12 i58 x59 s47) (lattice_Lattice_Top.b0 (k + 1) y12 i58 x59 s47) := by
  unfold lattice_Lattice_Top.b0
  repeat' (with_reducible first
    | assumption
    | refine LeO.bind ?_ (fun _ => ?_)
    | refine LeO.cond ?_ ?_
    | refine LeO.optE ?_ (fun _ => ?_) _
    | refine LeO.lrk (fun _ => ?_) (fun _ => ?_) _
    | refine LeO.forL (fun _ _ _ => ?_) _ _ _
    | refine LeO.whileL (fun _ => ?_) _ _
    | exact lattice_Lattice_is.mono k _ _
    | exact LeO.refl _)
theorem lattice_Lattice_Top.mono (k : Nat) (p0 : Option Tlattice_Lattice) : LeO (lattice_Lattice_Top k p0) (lattice_Lattice_Top (k + 1) p0) := by
  unfold lattice_Lattice_Top
  repeat' (with_reducible first
    | assumption
    | refine LeO.bind ?_ (fun _ => ?_)
    | refine LeO.cond ?_ ?_
    | refine LeO.optE ?_ (fun _ => ?_) _
    | refine LeO.lrk (fun _ => ?_) (fun _ => ?_) _
    | refine LeO.forL (fun _ _ _ => ?_) _ _ _
    | refine LeO.whileL (fun _ => ?_) _ _
    | exact lattice_Lattice_is.mono k _ _
    | exact lattice_Lattice_Top.b0.mono k _ _ _ _
    | exact LeO.refl _)
theorem law03_LatticeNil.mono (k : Nat) (p0 : ByteArray) (p1 : Int) (p2 : Int) : LeO (law03_LatticeNil k p0 p1 p2) (law03_LatticeNil (k + 1) p0 p1 p2) := by
  unfold law03_LatticeNil
  repeat' (with_reducible first
    | assumption
    | refine LeO.bind ?_ (fun _ => ?_)
    | refine LeO.cond ?_ ?_
    | refine LeO.optE ?_ (fun _ => ?_) _
    | refine LeO.lrk (fun _ => ?_) (fun _ => ?_) _
    | refine LeO.forL (fun _ _ _ => ?_) _ _ _
    | refine LeO.whileL (fun _ => ?_) _ _
    | exact law03_alive.mono k
    | exact lattice_Lattice_Leq.mono k _ _ _
    | exact lattice_Lattice_Join.mono k _ _ _
    | exact lattice_Lattice_Meet.mono k _ _ _
    | exact lattice_Lattice_Above.mono k _ _
    | exact lattice_Lattice_Find.mono k _ _
    | exact lattice_Lattice_Levels.mono k _
    | exact lattice_Lattice_Bottom.mono k _
    | exact lattice_Lattice_Top.mono k _
    | exact LeO.refl _)
end Go.Proofs.YtliaopbgkcdibaaDoor
