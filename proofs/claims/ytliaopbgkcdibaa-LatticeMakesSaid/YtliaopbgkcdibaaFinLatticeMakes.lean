/- LatticeMakes: which levels with any edges are a lattice, or why they are none, and all that is asked of them, is as the reference says. Conditions: any input; none beside the statement's own. -/
import Derived.Test.YtliaopbgkcdibaaCrLatticeMakes
import Derived.Test.YtliaopbgkcdibaaLl
namespace Go.Proofs.Ytliaopbgkcdibaa
theorem provedLatticeMakes : Rows.LatticeMakesSaid := law03_LatticeMakes.row LatticeMakes_law
end Go.Proofs.Ytliaopbgkcdibaa
