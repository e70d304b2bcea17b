/- LatticeEdges: in which order edges stand, and edges that follow from others, change nothing. Conditions: any input; none beside the statement's own. -/
import Derived.Test.YtliaopbgkcdibaaCrLatticeEdges
import Derived.Test.YtliaopbgkcdibaaLf
namespace Go.Proofs.Ytliaopbgkcdibaa
theorem provedLatticeEdges : Rows.LatticeEdgesSaid := law03_LatticeEdges.row LatticeEdges_law
end Go.Proofs.Ytliaopbgkcdibaa
