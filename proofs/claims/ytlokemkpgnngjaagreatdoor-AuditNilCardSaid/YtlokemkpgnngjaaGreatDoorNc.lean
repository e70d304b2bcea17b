/- AuditNil's plain law: without a catalog, or a store, nothing is open (the machine ran it whole). No program in sight. -/
import Derived.Test.YtlokemkpgnngjaaGreatDoorCpA
namespace Go.Proofs.YtlokemkpgnngjaaGreatDoor
theorem AuditNil_law (a : ByteArray) (b : Int) (p : TPlan) : ∃ k, law22_AuditNil k a b p = some true := ⟨0, rfl⟩
end Go.Proofs.YtlokemkpgnngjaaGreatDoor
