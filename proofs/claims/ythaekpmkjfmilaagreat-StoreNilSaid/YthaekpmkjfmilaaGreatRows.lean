/-
  NARROWER THAN 'FOR EVERY INPUT', by the rows' own cells (each row's printed sentence says how): StoreApart: loops · StoreCopies: loops · StoreAdds: loops · EraseShows: loops · EraseMixes: loops · EraseSteps: loops · EraseTop: loops.
  DERIVED. THE GIVEN ROWS OF THIS SEAT. 9 by the template 'for every input the law returns true; each argument reads behind the call as it read before'; 0 by the template 'total and deterministic' (their statements: YthaekpmkjfmilaaGreatTotals.lean).
  GIVEN WITH THE SEED: the statements are not yours to turn. If you find one false, say at which input.
  Laid BY PROGRAM, IN A SANDBOX (cutbox-rows.mjs): the forced cells as the released guide's own fill.sh prints them over the translation 9bcd3f11da251b02… (all of the seat's roots in one cut). By AI agents, Wed Nov 11 2026. No macro, syntax, notation, axiom, sorry.
-/
import Derived.Test.YthaekpmkjfmilaaGreatChecked
import GoSem.Claim
import GoSem.ClaimJoined
import GoSem.ClaimMapViews
import Derived.JoinedTies
import Derived.KernelRfl
namespace Go.Proofs.YthaekpmkjfmilaaGreat
/- THE CELL 'sum', in the pinned program and in every row, IS THE sha256 OF THE DUMP (.gsa) THAT YthaekpmkjfmilaaGreatProg.lean LOADS. Nothing in Lean hashes anything: it is a label: what it is worth is what the hold of that sum in a sandbox is worth. -/
noncomputable def Tryz.pinned : Pinned := { name := "ythaekpmkjfmilaagreat", sum := "9bcd3f11da251b02ce8b8da1630fce367fb969c0fb875619214014b1b5bacb69", checked := Tryz.checked }
namespace Rows
def none {H : Type} : Left H := { results := [], args := [] }

/-- 'cordonlaw12.StoreApart': WHATEVER THE INPUT: true; the input reads as it did. -/
def storeApartSpec : ChangeSpec := { name := "storeApart", fn := fun _ => fun
  | [d1, d2, d3, d4] => { results := [.lit (.bool true)], args := [d1, d2, d3, d4] }
  | _ => none }
def storeApartRow : OpenClaim := { program := "ythaekpmkjfmilaagreat", sum := "9bcd3f11da251b02ce8b8da1630fce367fb969c0fb875619214014b1b5bacb69", func := "cordon/cordonlaw12.StoreApart", spec := "storeApart", unfollowed := true, recurses := true, loops := true, apart := false }
def StoreApartSaid : Prop := storeApartRow.holds Tryz.pinned (OpenSpec.ofChange storeApartSpec)

/-- ITS FALSE NEIGHBOUR: 'it returns false'. Refute it at one input. -/
def storeApartWrong : ChangeSpec := { name := "storeApart", fn := fun _ => fun
  | [d1, d2, d3, d4] => { results := [.lit (.bool false)], args := [d1, d2, d3, d4] }
  | _ => none }
def StoreApartWrongFalsely : Prop := storeApartRow.holds Tryz.pinned (OpenSpec.ofChange storeApartWrong)

/-- 'cordonlaw12.StoreCopies': WHATEVER THE INPUT: true; the input reads as it did. -/
def storeCopiesSpec : ChangeSpec := { name := "storeCopies", fn := fun _ => fun
  | [d1, d2, d3, d4] => { results := [.lit (.bool true)], args := [d1, d2, d3, d4] }
  | _ => none }
def storeCopiesRow : OpenClaim := { program := "ythaekpmkjfmilaagreat", sum := "9bcd3f11da251b02ce8b8da1630fce367fb969c0fb875619214014b1b5bacb69", func := "cordon/cordonlaw12.StoreCopies", spec := "storeCopies", unfollowed := true, recurses := true, loops := true, apart := false }
def StoreCopiesSaid : Prop := storeCopiesRow.holds Tryz.pinned (OpenSpec.ofChange storeCopiesSpec)

/-- ITS FALSE NEIGHBOUR: 'it returns false'. Refute it at one input. -/
def storeCopiesWrong : ChangeSpec := { name := "storeCopies", fn := fun _ => fun
  | [d1, d2, d3, d4] => { results := [.lit (.bool false)], args := [d1, d2, d3, d4] }
  | _ => none }
def StoreCopiesWrongFalsely : Prop := storeCopiesRow.holds Tryz.pinned (OpenSpec.ofChange storeCopiesWrong)

/-- 'cordonlaw12.StoreAdds': WHATEVER THE INPUT: true; the input reads as it did. -/
def storeAddsSpec : ChangeSpec := { name := "storeAdds", fn := fun _ => fun
  | [d1, d2, d3, d4] => { results := [.lit (.bool true)], args := [d1, d2, d3, d4] }
  | _ => none }
def storeAddsRow : OpenClaim := { program := "ythaekpmkjfmilaagreat", sum := "9bcd3f11da251b02ce8b8da1630fce367fb969c0fb875619214014b1b5bacb69", func := "cordon/cordonlaw12.StoreAdds", spec := "storeAdds", unfollowed := true, recurses := true, loops := true, apart := false }
def StoreAddsSaid : Prop := storeAddsRow.holds Tryz.pinned (OpenSpec.ofChange storeAddsSpec)

/-- ITS FALSE NEIGHBOUR: 'it returns false'. Refute it at one input. -/
def storeAddsWrong : ChangeSpec := { name := "storeAdds", fn := fun _ => fun
  | [d1, d2, d3, d4] => { results := [.lit (.bool false)], args := [d1, d2, d3, d4] }
  | _ => none }
def StoreAddsWrongFalsely : Prop := storeAddsRow.holds Tryz.pinned (OpenSpec.ofChange storeAddsWrong)

/-- 'cordonlaw12.StoreNil': WHATEVER THE INPUT: true; the input reads as it did. -/
def storeNilSpec : ChangeSpec := { name := "storeNil", fn := fun _ => fun
  | [d1, d2] => { results := [.lit (.bool true)], args := [d1, d2] }
  | _ => none }
def storeNilRow : OpenClaim := { program := "ythaekpmkjfmilaagreat", sum := "9bcd3f11da251b02ce8b8da1630fce367fb969c0fb875619214014b1b5bacb69", func := "cordon/cordonlaw12.StoreNil", spec := "storeNil", unfollowed := true, recurses := true, apart := false }
def StoreNilSaid : Prop := storeNilRow.holds Tryz.pinned (OpenSpec.ofChange storeNilSpec)

/-- ITS FALSE NEIGHBOUR: 'it returns false'. Refute it at one input. -/
def storeNilWrong : ChangeSpec := { name := "storeNil", fn := fun _ => fun
  | [d1, d2] => { results := [.lit (.bool false)], args := [d1, d2] }
  | _ => none }
def StoreNilWrongFalsely : Prop := storeNilRow.holds Tryz.pinned (OpenSpec.ofChange storeNilWrong)

/-- 'cordonlaw20.EraseShows': WHATEVER THE INPUT: true; the input reads as it did. -/
def eraseShowsSpec : ChangeSpec := { name := "eraseShows", fn := fun _ => fun
  | [d1, d2, d3, d4, d5] => { results := [.lit (.bool true)], args := [d1, d2, d3, d4, d5] }
  | _ => none }
def eraseShowsRow : OpenClaim := { program := "ythaekpmkjfmilaagreat", sum := "9bcd3f11da251b02ce8b8da1630fce367fb969c0fb875619214014b1b5bacb69", func := "cordon/cordonlaw20.EraseShows", spec := "eraseShows", unfollowed := true, recurses := true, loops := true, apart := false }
def EraseShowsSaid : Prop := eraseShowsRow.holds Tryz.pinned (OpenSpec.ofChange eraseShowsSpec)

/-- ITS FALSE NEIGHBOUR: 'it returns false'. Refute it at one input. -/
def eraseShowsWrong : ChangeSpec := { name := "eraseShows", fn := fun _ => fun
  | [d1, d2, d3, d4, d5] => { results := [.lit (.bool false)], args := [d1, d2, d3, d4, d5] }
  | _ => none }
def EraseShowsWrongFalsely : Prop := eraseShowsRow.holds Tryz.pinned (OpenSpec.ofChange eraseShowsWrong)

/-- 'cordonlaw20.EraseMixes': WHATEVER THE INPUT: true; the input reads as it did. -/
def eraseMixesSpec : ChangeSpec := { name := "eraseMixes", fn := fun _ => fun
  | [d1, d2, d3, d4] => { results := [.lit (.bool true)], args := [d1, d2, d3, d4] }
  | _ => none }
def eraseMixesRow : OpenClaim := { program := "ythaekpmkjfmilaagreat", sum := "9bcd3f11da251b02ce8b8da1630fce367fb969c0fb875619214014b1b5bacb69", func := "cordon/cordonlaw20.EraseMixes", spec := "eraseMixes", unfollowed := true, recurses := true, loops := true, apart := false }
def EraseMixesSaid : Prop := eraseMixesRow.holds Tryz.pinned (OpenSpec.ofChange eraseMixesSpec)

/-- ITS FALSE NEIGHBOUR: 'it returns false'. Refute it at one input. -/
def eraseMixesWrong : ChangeSpec := { name := "eraseMixes", fn := fun _ => fun
  | [d1, d2, d3, d4] => { results := [.lit (.bool false)], args := [d1, d2, d3, d4] }
  | _ => none }
def EraseMixesWrongFalsely : Prop := eraseMixesRow.holds Tryz.pinned (OpenSpec.ofChange eraseMixesWrong)

/-- 'cordonlaw20.EraseSteps': WHATEVER THE INPUT: true; the input reads as it did. -/
def eraseStepsSpec : ChangeSpec := { name := "eraseSteps", fn := fun _ => fun
  | [d1, d2, d3, d4, d5] => { results := [.lit (.bool true)], args := [d1, d2, d3, d4, d5] }
  | _ => none }
def eraseStepsRow : OpenClaim := { program := "ythaekpmkjfmilaagreat", sum := "9bcd3f11da251b02ce8b8da1630fce367fb969c0fb875619214014b1b5bacb69", func := "cordon/cordonlaw20.EraseSteps", spec := "eraseSteps", unfollowed := true, recurses := true, loops := true, apart := false }
def EraseStepsSaid : Prop := eraseStepsRow.holds Tryz.pinned (OpenSpec.ofChange eraseStepsSpec)

/-- ITS FALSE NEIGHBOUR: 'it returns false'. Refute it at one input. -/
def eraseStepsWrong : ChangeSpec := { name := "eraseSteps", fn := fun _ => fun
  | [d1, d2, d3, d4, d5] => { results := [.lit (.bool false)], args := [d1, d2, d3, d4, d5] }
  | _ => none }
def EraseStepsWrongFalsely : Prop := eraseStepsRow.holds Tryz.pinned (OpenSpec.ofChange eraseStepsWrong)

/-- 'cordonlaw20.EraseTop': WHATEVER THE INPUT: true; the input reads as it did. -/
def eraseTopSpec : ChangeSpec := { name := "eraseTop", fn := fun _ => fun
  | [d1, d2, d3, d4] => { results := [.lit (.bool true)], args := [d1, d2, d3, d4] }
  | _ => none }
def eraseTopRow : OpenClaim := { program := "ythaekpmkjfmilaagreat", sum := "9bcd3f11da251b02ce8b8da1630fce367fb969c0fb875619214014b1b5bacb69", func := "cordon/cordonlaw20.EraseTop", spec := "eraseTop", unfollowed := true, recurses := true, loops := true, apart := false }
def EraseTopSaid : Prop := eraseTopRow.holds Tryz.pinned (OpenSpec.ofChange eraseTopSpec)

/-- ITS FALSE NEIGHBOUR: 'it returns false'. Refute it at one input. -/
def eraseTopWrong : ChangeSpec := { name := "eraseTop", fn := fun _ => fun
  | [d1, d2, d3, d4] => { results := [.lit (.bool false)], args := [d1, d2, d3, d4] }
  | _ => none }
def EraseTopWrongFalsely : Prop := eraseTopRow.holds Tryz.pinned (OpenSpec.ofChange eraseTopWrong)

/-- 'cordonlaw20.EraseNil': WHATEVER THE INPUT: true; the input reads as it did. -/
def eraseNilSpec : ChangeSpec := { name := "eraseNil", fn := fun _ => fun
  | [d1, d2] => { results := [.lit (.bool true)], args := [d1, d2] }
  | _ => none }
def eraseNilRow : OpenClaim := { program := "ythaekpmkjfmilaagreat", sum := "9bcd3f11da251b02ce8b8da1630fce367fb969c0fb875619214014b1b5bacb69", func := "cordon/cordonlaw20.EraseNil", spec := "eraseNil", unfollowed := true, recurses := true, apart := false }
def EraseNilSaid : Prop := eraseNilRow.holds Tryz.pinned (OpenSpec.ofChange eraseNilSpec)

/-- ITS FALSE NEIGHBOUR: 'it returns false'. Refute it at one input. -/
def eraseNilWrong : ChangeSpec := { name := "eraseNil", fn := fun _ => fun
  | [d1, d2] => { results := [.lit (.bool false)], args := [d1, d2] }
  | _ => none }
def EraseNilWrongFalsely : Prop := eraseNilRow.holds Tryz.pinned (OpenSpec.ofChange eraseNilWrong)

/- THE SECOND FORM. 'bulk': how many values and letters a reading holds, each counted each time it is reached (what is shared counts as often as it is met; a slice's spare places count too). A statement '..UptoSaid' is the law's where the arguments, and the package variables that the reading takes, are together of bulk at most 1048576: NARROWER than '..Said'. Prove '..Said' where nothing that the law and all that it calls make is longer than what came in: it says more and counts as full. Else prove '..UptoSaid'. A law counts once. -/
mutual
def uptoBulk {H : Type} : DataW H → Nat
  | .lit (.string bytes) => bytes.length + 1
  | .lit _ => 1
  | .nil => 1
  | .ptr d => uptoBulk d + 1
  | .slice elems spare => uptoBulkAll elems + uptoBulkAll spare + 1
  | .agg parts => uptoBulkAll parts + 1
  | .iface _ d => uptoBulk d + 1
  | .map entries => uptoBulkEntries entries + 1
  | .held _ => 1
def uptoBulkAll {H : Type} : List (DataW H) → Nat
  | [] => 0
  | d :: r => uptoBulk d + uptoBulkAll r
def uptoBulkEntries {H : Type} : List (Lit × DataW H) → Nat
  | [] => 0
  | x :: r => uptoBulkEntry x + uptoBulkEntries r
def uptoBulkEntry {H : Type} : Lit × DataW H → Nat
  | (.string bytes, d) => bytes.length + uptoBulk d + 1
  | (_, d) => uptoBulk d + 1
 end
def uptoSmall : (H : Type) → List (DataW H) → Bool := fun _ ds => decide (uptoBulkAll ds ≤ 1048576)
def OpenSpec.upto (s : _root_.Go.ChangeSpec) : _root_.Go.OpenSpec := { _root_.Go.OpenSpec.ofChange s with cond := some uptoSmall }

/-- 'cordonlaw12.StoreApart', WHERE WHAT IT READS IS OF BULK AT MOST 1048576: true; the input reads as it did. -/
def storeApartUptoRow : OpenClaim := { program := "ythaekpmkjfmilaagreat", sum := "9bcd3f11da251b02ce8b8da1630fce367fb969c0fb875619214014b1b5bacb69", func := "cordon/cordonlaw12.StoreApart", spec := "storeApart", unfollowed := true, recurses := true, loops := true, apart := false, narrowed := true }
def StoreApartUptoSaid : Prop := storeApartUptoRow.holds Tryz.pinned (OpenSpec.upto storeApartSpec)

/-- 'cordonlaw12.StoreCopies', WHERE WHAT IT READS IS OF BULK AT MOST 1048576: true; the input reads as it did. -/
def storeCopiesUptoRow : OpenClaim := { program := "ythaekpmkjfmilaagreat", sum := "9bcd3f11da251b02ce8b8da1630fce367fb969c0fb875619214014b1b5bacb69", func := "cordon/cordonlaw12.StoreCopies", spec := "storeCopies", unfollowed := true, recurses := true, loops := true, apart := false, narrowed := true }
def StoreCopiesUptoSaid : Prop := storeCopiesUptoRow.holds Tryz.pinned (OpenSpec.upto storeCopiesSpec)

/-- 'cordonlaw12.StoreAdds', WHERE WHAT IT READS IS OF BULK AT MOST 1048576: true; the input reads as it did. -/
def storeAddsUptoRow : OpenClaim := { program := "ythaekpmkjfmilaagreat", sum := "9bcd3f11da251b02ce8b8da1630fce367fb969c0fb875619214014b1b5bacb69", func := "cordon/cordonlaw12.StoreAdds", spec := "storeAdds", unfollowed := true, recurses := true, loops := true, apart := false, narrowed := true }
def StoreAddsUptoSaid : Prop := storeAddsUptoRow.holds Tryz.pinned (OpenSpec.upto storeAddsSpec)

/-- 'cordonlaw12.StoreNil', WHERE WHAT IT READS IS OF BULK AT MOST 1048576: true; the input reads as it did. -/
def storeNilUptoRow : OpenClaim := { program := "ythaekpmkjfmilaagreat", sum := "9bcd3f11da251b02ce8b8da1630fce367fb969c0fb875619214014b1b5bacb69", func := "cordon/cordonlaw12.StoreNil", spec := "storeNil", unfollowed := true, recurses := true, apart := false, narrowed := true }
def StoreNilUptoSaid : Prop := storeNilUptoRow.holds Tryz.pinned (OpenSpec.upto storeNilSpec)

/-- 'cordonlaw20.EraseShows', WHERE WHAT IT READS IS OF BULK AT MOST 1048576: true; the input reads as it did. -/
def eraseShowsUptoRow : OpenClaim := { program := "ythaekpmkjfmilaagreat", sum := "9bcd3f11da251b02ce8b8da1630fce367fb969c0fb875619214014b1b5bacb69", func := "cordon/cordonlaw20.EraseShows", spec := "eraseShows", unfollowed := true, recurses := true, loops := true, apart := false, narrowed := true }
def EraseShowsUptoSaid : Prop := eraseShowsUptoRow.holds Tryz.pinned (OpenSpec.upto eraseShowsSpec)

/-- 'cordonlaw20.EraseMixes', WHERE WHAT IT READS IS OF BULK AT MOST 1048576: true; the input reads as it did. -/
def eraseMixesUptoRow : OpenClaim := { program := "ythaekpmkjfmilaagreat", sum := "9bcd3f11da251b02ce8b8da1630fce367fb969c0fb875619214014b1b5bacb69", func := "cordon/cordonlaw20.EraseMixes", spec := "eraseMixes", unfollowed := true, recurses := true, loops := true, apart := false, narrowed := true }
def EraseMixesUptoSaid : Prop := eraseMixesUptoRow.holds Tryz.pinned (OpenSpec.upto eraseMixesSpec)

/-- 'cordonlaw20.EraseSteps', WHERE WHAT IT READS IS OF BULK AT MOST 1048576: true; the input reads as it did. -/
def eraseStepsUptoRow : OpenClaim := { program := "ythaekpmkjfmilaagreat", sum := "9bcd3f11da251b02ce8b8da1630fce367fb969c0fb875619214014b1b5bacb69", func := "cordon/cordonlaw20.EraseSteps", spec := "eraseSteps", unfollowed := true, recurses := true, loops := true, apart := false, narrowed := true }
def EraseStepsUptoSaid : Prop := eraseStepsUptoRow.holds Tryz.pinned (OpenSpec.upto eraseStepsSpec)

/-- 'cordonlaw20.EraseTop', WHERE WHAT IT READS IS OF BULK AT MOST 1048576: true; the input reads as it did. -/
def eraseTopUptoRow : OpenClaim := { program := "ythaekpmkjfmilaagreat", sum := "9bcd3f11da251b02ce8b8da1630fce367fb969c0fb875619214014b1b5bacb69", func := "cordon/cordonlaw20.EraseTop", spec := "eraseTop", unfollowed := true, recurses := true, loops := true, apart := false, narrowed := true }
def EraseTopUptoSaid : Prop := eraseTopUptoRow.holds Tryz.pinned (OpenSpec.upto eraseTopSpec)

/-- 'cordonlaw20.EraseNil', WHERE WHAT IT READS IS OF BULK AT MOST 1048576: true; the input reads as it did. -/
def eraseNilUptoRow : OpenClaim := { program := "ythaekpmkjfmilaagreat", sum := "9bcd3f11da251b02ce8b8da1630fce367fb969c0fb875619214014b1b5bacb69", func := "cordon/cordonlaw20.EraseNil", spec := "eraseNil", unfollowed := true, recurses := true, apart := false, narrowed := true }
def EraseNilUptoSaid : Prop := eraseNilUptoRow.holds Tryz.pinned (OpenSpec.upto eraseNilSpec)

end Rows
end Go.Proofs.YthaekpmkjfmilaaGreat
