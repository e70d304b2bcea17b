/- The contracts: what the machine does at a call is what the plain function says. Written by mk.py. -/
import Derived.Test.YtlokemkpgnngjaaGreatDoorCtA
set_option linter.unusedVariables false
set_option linter.unusedSimpArgs false
set_option maxRecDepth 100000
namespace Go.Proofs.YtlokemkpgnngjaaGreatDoor
open Go.RowKit
theorem cl_5:Callable Tryz.prog 5:=⟨_,Tryz.func5,by kernel_rfl,by kernel_rfl⟩

def law22_AuditNil.C (s:ByteArray→Int→TPlan→Option Bool):Prop:=∀ {e f g r},s e f g=some r→∀ {c b d},Inv c b [] b [] c→(Rep b g.d d)→Calls Tryz.prog 5 #[.string e,i_ f,.agg ⟨d⟩] c (Ret c b [] fun G' L' v=>L'=[]∧v = .bool r)

theorem law22_AuditNil.ok (k:Nat):law22_AuditNil.C (law22_AuditNil k):=by
  intro g h i r c l e f d b
  cases c
  obtain ⟨_,_,_,_,_,_,_,_,_,_,rfl,_,_,_,_,_⟩:=TPlan.inv.1 b
  exact Km_yes d
end Go.Proofs.YtlokemkpgnngjaaGreatDoor
