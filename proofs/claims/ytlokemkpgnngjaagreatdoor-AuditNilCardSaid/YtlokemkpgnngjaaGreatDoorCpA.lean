/- The functions, as plain Lean: each Go function with the same answers (none: it panics there, or the rounds are used up). Written by mk.py. -/
import Derived.Test.YtlokemkpgnngjaaGreatDoorCxF
set_option linter.unusedVariables false
set_option linter.unusedSimpArgs false
set_option maxRecDepth 100000
namespace Go.Proofs.YtlokemkpgnngjaaGreatDoor
mutual
inductive TNode where
  | mk (Kind : Int) (N : Int) (S : ByteArray) (Kids : List TNode) (Plans : List TPlan)
inductive TPlan where
  | mk (Kind : Int) (N : Int) (Kids : List TPlan) (E : List TNode) (Keys : List Int) (Aggs : List TGather) (Desc : List Bool) (Width : Int)
inductive TGather where
  | mk (Fn : ByteArray) (E : List TNode)
end
def TNode.Kind : TNode → Int | .mk x _ _ _ _ => x
def TNode.N : TNode → Int | .mk _ x _ _ _ => x
def TNode.S : TNode → ByteArray | .mk _ _ x _ _ => x
def TNode.Kids : TNode → List TNode | .mk _ _ _ x _ => x
def TNode.Plans : TNode → List TPlan | .mk _ _ _ _ x => x
def TPlan.Kind : TPlan → Int | .mk x _ _ _ _ _ _ _ => x
def TPlan.N : TPlan → Int | .mk _ x _ _ _ _ _ _ => x
def TPlan.Kids : TPlan → List TPlan | .mk _ _ x _ _ _ _ _ => x
def TPlan.E : TPlan → List TNode | .mk _ _ _ x _ _ _ _ => x
def TPlan.Keys : TPlan → List Int | .mk _ _ _ _ x _ _ _ => x
def TPlan.Aggs : TPlan → List TGather | .mk _ _ _ _ _ x _ _ => x
def TPlan.Desc : TPlan → List Bool | .mk _ _ _ _ _ _ x _ => x
def TPlan.Width : TPlan → Int | .mk _ _ _ _ _ _ _ x => x
def TGather.Fn : TGather → ByteArray | .mk x _ => x
def TGather.E : TGather → List TNode | .mk _ x => x
structure TGrant where
  Table : ByteArray
  Column : ByteArray

def law22_AuditNil (k:Nat) (b:ByteArray) (c:Int) (d:TPlan):Option Bool:=some true


end Go.Proofs.YtlokemkpgnngjaaGreatDoor
