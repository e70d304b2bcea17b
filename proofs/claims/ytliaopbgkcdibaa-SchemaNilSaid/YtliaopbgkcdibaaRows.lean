/-
  NARROWER THAN 'FOR EVERY INPUT', by the rows' own cells (each row's printed sentence says how): WeighPlans: loops · WeighMore: loops.
  DERIVED. THE GIVEN ROWS OF THIS SEAT. 7 by the template 'for every input the law returns true; each argument reads behind the call as it read before'; 0 by the template 'total and deterministic' (their statements: YtliaopbgkcdibaaTotals.lean).
  GIVEN WITH THE SEED: the statements are not yours to turn. If you find one false, say at which input.
  Laid BY PROGRAM, IN A SANDBOX (cutbox-rows.mjs): the forced cells as the released guide's own fill.sh prints them over the translation 78c37bf8ec6a6369… (all of the seat's roots in one cut). By AI agents, Wed Nov 11 2026. No macro, syntax, notation, axiom, sorry.
-/
import Derived.Test.YtliaopbgkcdibaaChecked
import GoSem.Claim
import GoSem.ClaimJoined
import GoSem.ClaimMapViews
import Derived.JoinedTies
import Derived.KernelRfl
namespace Go.Proofs.Ytliaopbgkcdibaa
/- THE CELL 'sum', in the pinned program and in every row, IS THE sha256 OF THE DUMP (.gsa) THAT YtliaopbgkcdibaaProg.lean LOADS. Nothing in Lean hashes anything: it is a label: what it is worth is what the hold of that sum in a sandbox is worth. -/
noncomputable def Try.pinned : Pinned := { name := "ytliaopbgkcdibaa", sum := "78c37bf8ec6a6369b4fefaccc923e198ab5c09fe2bfba3c1bdd5b06ecc82500f", checked := Try.checked }
namespace Rows
def none {H : Type} : Left H := { results := [], args := [] }

/-- 'cordonlaw03.LatticeEdges': WHATEVER THE INPUT: true; the input reads as it did. -/
def latticeEdgesSpec : ChangeSpec := { name := "latticeEdges", fn := fun _ => fun
  | [d1, d2, d3] => { results := [.lit (.bool true)], args := [d1, d2, d3] }
  | _ => none }
def latticeEdgesRow : OpenClaim := { program := "ytliaopbgkcdibaa", sum := "78c37bf8ec6a6369b4fefaccc923e198ab5c09fe2bfba3c1bdd5b06ecc82500f", func := "cordon/cordonlaw03.LatticeEdges", spec := "latticeEdges", apart := false }
def LatticeEdgesSaid : Prop := latticeEdgesRow.holds Try.pinned (OpenSpec.ofChange latticeEdgesSpec)

/-- ITS FALSE NEIGHBOUR: 'it returns false'. Refute it at one input. -/
def latticeEdgesWrong : ChangeSpec := { name := "latticeEdges", fn := fun _ => fun
  | [d1, d2, d3] => { results := [.lit (.bool false)], args := [d1, d2, d3] }
  | _ => none }
def LatticeEdgesWrongFalsely : Prop := latticeEdgesRow.holds Try.pinned (OpenSpec.ofChange latticeEdgesWrong)

/-- 'cordonlaw03.LatticeLaws': WHATEVER THE INPUT: true; the input reads as it did. -/
def latticeLawsSpec : ChangeSpec := { name := "latticeLaws", fn := fun _ => fun
  | [d1, d2] => { results := [.lit (.bool true)], args := [d1, d2] }
  | _ => none }
def latticeLawsRow : OpenClaim := { program := "ytliaopbgkcdibaa", sum := "78c37bf8ec6a6369b4fefaccc923e198ab5c09fe2bfba3c1bdd5b06ecc82500f", func := "cordon/cordonlaw03.LatticeLaws", spec := "latticeLaws", apart := false }
def LatticeLawsSaid : Prop := latticeLawsRow.holds Try.pinned (OpenSpec.ofChange latticeLawsSpec)

/-- ITS FALSE NEIGHBOUR: 'it returns false'. Refute it at one input. -/
def latticeLawsWrong : ChangeSpec := { name := "latticeLaws", fn := fun _ => fun
  | [d1, d2] => { results := [.lit (.bool false)], args := [d1, d2] }
  | _ => none }
def LatticeLawsWrongFalsely : Prop := latticeLawsRow.holds Try.pinned (OpenSpec.ofChange latticeLawsWrong)

/-- 'cordonlaw03.LatticeTurned': WHATEVER THE INPUT: true; the input reads as it did. -/
def latticeTurnedSpec : ChangeSpec := { name := "latticeTurned", fn := fun _ => fun
  | [d1, d2] => { results := [.lit (.bool true)], args := [d1, d2] }
  | _ => none }
def latticeTurnedRow : OpenClaim := { program := "ytliaopbgkcdibaa", sum := "78c37bf8ec6a6369b4fefaccc923e198ab5c09fe2bfba3c1bdd5b06ecc82500f", func := "cordon/cordonlaw03.LatticeTurned", spec := "latticeTurned", apart := false }
def LatticeTurnedSaid : Prop := latticeTurnedRow.holds Try.pinned (OpenSpec.ofChange latticeTurnedSpec)

/-- ITS FALSE NEIGHBOUR: 'it returns false'. Refute it at one input. -/
def latticeTurnedWrong : ChangeSpec := { name := "latticeTurned", fn := fun _ => fun
  | [d1, d2] => { results := [.lit (.bool false)], args := [d1, d2] }
  | _ => none }
def LatticeTurnedWrongFalsely : Prop := latticeTurnedRow.holds Try.pinned (OpenSpec.ofChange latticeTurnedWrong)

/-- 'cordonlaw03.LatticeMakes': WHATEVER THE INPUT: true; the input reads as it did. -/
def latticeMakesSpec : ChangeSpec := { name := "latticeMakes", fn := fun _ => fun
  | [d1, d2, d3] => { results := [.lit (.bool true)], args := [d1, d2, d3] }
  | _ => none }
def latticeMakesRow : OpenClaim := { program := "ytliaopbgkcdibaa", sum := "78c37bf8ec6a6369b4fefaccc923e198ab5c09fe2bfba3c1bdd5b06ecc82500f", func := "cordon/cordonlaw03.LatticeMakes", spec := "latticeMakes", apart := false }
def LatticeMakesSaid : Prop := latticeMakesRow.holds Try.pinned (OpenSpec.ofChange latticeMakesSpec)

/-- ITS FALSE NEIGHBOUR: 'it returns false'. Refute it at one input. -/
def latticeMakesWrong : ChangeSpec := { name := "latticeMakes", fn := fun _ => fun
  | [d1, d2, d3] => { results := [.lit (.bool false)], args := [d1, d2, d3] }
  | _ => none }
def LatticeMakesWrongFalsely : Prop := latticeMakesRow.holds Try.pinned (OpenSpec.ofChange latticeMakesWrong)

/-- 'cordonlaw21.WeighPlans': WHATEVER THE INPUT: true; the input reads as it did. -/
def weighPlansSpec : ChangeSpec := { name := "weighPlans", fn := fun _ => fun
  | [d1, d2] => { results := [.lit (.bool true)], args := [d1, d2] }
  | _ => none }
def weighPlansRow : OpenClaim := { program := "ytliaopbgkcdibaa", sum := "78c37bf8ec6a6369b4fefaccc923e198ab5c09fe2bfba3c1bdd5b06ecc82500f", func := "cordon/cordonlaw21.WeighPlans", spec := "weighPlans", inPlace := ["math.archTrunc", "math.Float64bits", "math.Float64frombits"], recurses := true, loops := true, apart := false }
def WeighPlansSaid : Prop := weighPlansRow.holds Try.pinned (OpenSpec.ofChange weighPlansSpec)

/-- ITS FALSE NEIGHBOUR: 'it returns false'. Refute it at one input. -/
def weighPlansWrong : ChangeSpec := { name := "weighPlans", fn := fun _ => fun
  | [d1, d2] => { results := [.lit (.bool false)], args := [d1, d2] }
  | _ => none }
def WeighPlansWrongFalsely : Prop := weighPlansRow.holds Try.pinned (OpenSpec.ofChange weighPlansWrong)

/-- 'cordonlaw21.WeighMore': WHATEVER THE INPUT: true; the input reads as it did. -/
def weighMoreSpec : ChangeSpec := { name := "weighMore", fn := fun _ => fun
  | [d1, d2, d3, d4] => { results := [.lit (.bool true)], args := [d1, d2, d3, d4] }
  | _ => none }
def weighMoreRow : OpenClaim := { program := "ytliaopbgkcdibaa", sum := "78c37bf8ec6a6369b4fefaccc923e198ab5c09fe2bfba3c1bdd5b06ecc82500f", func := "cordon/cordonlaw21.WeighMore", spec := "weighMore", inPlace := ["math.archTrunc", "math.Float64bits", "math.Float64frombits"], recurses := true, loops := true, apart := false }
def WeighMoreSaid : Prop := weighMoreRow.holds Try.pinned (OpenSpec.ofChange weighMoreSpec)

/-- ITS FALSE NEIGHBOUR: 'it returns false'. Refute it at one input. -/
def weighMoreWrong : ChangeSpec := { name := "weighMore", fn := fun _ => fun
  | [d1, d2, d3, d4] => { results := [.lit (.bool false)], args := [d1, d2, d3, d4] }
  | _ => none }
def WeighMoreWrongFalsely : Prop := weighMoreRow.holds Try.pinned (OpenSpec.ofChange weighMoreWrong)

/-- 'cordonlaw08.SchemaNil': WHATEVER THE INPUT: true; the input reads as it did. -/
def schemaNilSpec : ChangeSpec := { name := "schemaNil", fn := fun _ => fun
  | [d] => { results := [.lit (.bool true)], args := [d] }
  | _ => none }
def schemaNilRow : OpenClaim := { program := "ytliaopbgkcdibaa", sum := "78c37bf8ec6a6369b4fefaccc923e198ab5c09fe2bfba3c1bdd5b06ecc82500f", func := "cordon/cordonlaw08.SchemaNil", spec := "schemaNil", unfollowed := true, recurses := true, apart := false }
def SchemaNilSaid : Prop := schemaNilRow.holds Try.pinned (OpenSpec.ofChange schemaNilSpec)

/-- ITS FALSE NEIGHBOUR: 'it returns false'. Refute it at one input. -/
def schemaNilWrong : ChangeSpec := { name := "schemaNil", fn := fun _ => fun
  | [d] => { results := [.lit (.bool false)], args := [d] }
  | _ => none }
def SchemaNilWrongFalsely : Prop := schemaNilRow.holds Try.pinned (OpenSpec.ofChange schemaNilWrong)

/- THE SECOND FORM. 'bulk': how many values and letters a reading holds, each counted each time it is reached (what is shared counts as often as it is met; a slice's spare places count too). A statement '..UptoSaid' is the law's where the arguments, and the package variables that the reading takes, are together of bulk at most 1048576: NARROWER than '..Said'. Prove '..Said' where nothing that the law and all that it calls make is longer than what came in: it says more and counts as full. Else prove '..UptoSaid'. A law counts once. -/
mutual
def uptoBulk {H : Type} : DataW H → Nat
  | .lit (.string bytes) => bytes.length + 1
  | .lit _ => 1
  | .nil => 1
  | .ptr d => uptoBulk d + 1
  | .slice elems spare => uptoBulkAll elems + uptoBulkAll spare + 1
  | .agg parts => uptoBulkAll parts + 1
  | .iface _ d => uptoBulk d + 1
  | .map entries => uptoBulkEntries entries + 1
  | .held _ => 1
def uptoBulkAll {H : Type} : List (DataW H) → Nat
  | [] => 0
  | d :: r => uptoBulk d + uptoBulkAll r
def uptoBulkEntries {H : Type} : List (Lit × DataW H) → Nat
  | [] => 0
  | x :: r => uptoBulkEntry x + uptoBulkEntries r
def uptoBulkEntry {H : Type} : Lit × DataW H → Nat
  | (.string bytes, d) => bytes.length + uptoBulk d + 1
  | (_, d) => uptoBulk d + 1
 end
def uptoSmall : (H : Type) → List (DataW H) → Bool := fun _ ds => decide (uptoBulkAll ds ≤ 1048576)
def OpenSpec.upto (s : _root_.Go.ChangeSpec) : _root_.Go.OpenSpec := { _root_.Go.OpenSpec.ofChange s with cond := some uptoSmall }

/-- 'cordonlaw03.LatticeEdges', WHERE WHAT IT READS IS OF BULK AT MOST 1048576: true; the input reads as it did. -/
def latticeEdgesUptoRow : OpenClaim := { program := "ytliaopbgkcdibaa", sum := "78c37bf8ec6a6369b4fefaccc923e198ab5c09fe2bfba3c1bdd5b06ecc82500f", func := "cordon/cordonlaw03.LatticeEdges", spec := "latticeEdges", apart := false, narrowed := true }
def LatticeEdgesUptoSaid : Prop := latticeEdgesUptoRow.holds Try.pinned (OpenSpec.upto latticeEdgesSpec)

/-- 'cordonlaw03.LatticeLaws', WHERE WHAT IT READS IS OF BULK AT MOST 1048576: true; the input reads as it did. -/
def latticeLawsUptoRow : OpenClaim := { program := "ytliaopbgkcdibaa", sum := "78c37bf8ec6a6369b4fefaccc923e198ab5c09fe2bfba3c1bdd5b06ecc82500f", func := "cordon/cordonlaw03.LatticeLaws", spec := "latticeLaws", apart := false, narrowed := true }
def LatticeLawsUptoSaid : Prop := latticeLawsUptoRow.holds Try.pinned (OpenSpec.upto latticeLawsSpec)

/-- 'cordonlaw03.LatticeTurned', WHERE WHAT IT READS IS OF BULK AT MOST 1048576: true; the input reads as it did. -/
def latticeTurnedUptoRow : OpenClaim := { program := "ytliaopbgkcdibaa", sum := "78c37bf8ec6a6369b4fefaccc923e198ab5c09fe2bfba3c1bdd5b06ecc82500f", func := "cordon/cordonlaw03.LatticeTurned", spec := "latticeTurned", apart := false, narrowed := true }
def LatticeTurnedUptoSaid : Prop := latticeTurnedUptoRow.holds Try.pinned (OpenSpec.upto latticeTurnedSpec)

/-- 'cordonlaw03.LatticeMakes', WHERE WHAT IT READS IS OF BULK AT MOST 1048576: true; the input reads as it did. -/
def latticeMakesUptoRow : OpenClaim := { program := "ytliaopbgkcdibaa", sum := "78c37bf8ec6a6369b4fefaccc923e198ab5c09fe2bfba3c1bdd5b06ecc82500f", func := "cordon/cordonlaw03.LatticeMakes", spec := "latticeMakes", apart := false, narrowed := true }
def LatticeMakesUptoSaid : Prop := latticeMakesUptoRow.holds Try.pinned (OpenSpec.upto latticeMakesSpec)

/-- 'cordonlaw21.WeighPlans', WHERE WHAT IT READS IS OF BULK AT MOST 1048576: true; the input reads as it did. -/
def weighPlansUptoRow : OpenClaim := { program := "ytliaopbgkcdibaa", sum := "78c37bf8ec6a6369b4fefaccc923e198ab5c09fe2bfba3c1bdd5b06ecc82500f", func := "cordon/cordonlaw21.WeighPlans", spec := "weighPlans", inPlace := ["math.archTrunc", "math.Float64bits", "math.Float64frombits"], recurses := true, loops := true, apart := false, narrowed := true }
def WeighPlansUptoSaid : Prop := weighPlansUptoRow.holds Try.pinned (OpenSpec.upto weighPlansSpec)

/-- 'cordonlaw21.WeighMore', WHERE WHAT IT READS IS OF BULK AT MOST 1048576: true; the input reads as it did. -/
def weighMoreUptoRow : OpenClaim := { program := "ytliaopbgkcdibaa", sum := "78c37bf8ec6a6369b4fefaccc923e198ab5c09fe2bfba3c1bdd5b06ecc82500f", func := "cordon/cordonlaw21.WeighMore", spec := "weighMore", inPlace := ["math.archTrunc", "math.Float64bits", "math.Float64frombits"], recurses := true, loops := true, apart := false, narrowed := true }
def WeighMoreUptoSaid : Prop := weighMoreUptoRow.holds Try.pinned (OpenSpec.upto weighMoreSpec)

/-- 'cordonlaw08.SchemaNil', WHERE WHAT IT READS IS OF BULK AT MOST 1048576: true; the input reads as it did. -/
def schemaNilUptoRow : OpenClaim := { program := "ytliaopbgkcdibaa", sum := "78c37bf8ec6a6369b4fefaccc923e198ab5c09fe2bfba3c1bdd5b06ecc82500f", func := "cordon/cordonlaw08.SchemaNil", spec := "schemaNil", unfollowed := true, recurses := true, apart := false, narrowed := true }
def SchemaNilUptoSaid : Prop := schemaNilUptoRow.holds Try.pinned (OpenSpec.upto schemaNilSpec)

end Rows
end Go.Proofs.Ytliaopbgkcdibaa
