/- LatticeTurned: with all edges the other way round levels are a lattice just if they were one, and the least above two is the greatest below them then. Conditions: any input; none beside the statement's own. -/
import Derived.Test.YtliaopbgkcdibaaCrLatticeTurned
import Derived.Test.YtliaopbgkcdibaaLh
namespace Go.Proofs.Ytliaopbgkcdibaa
theorem provedLatticeTurned : Rows.LatticeTurnedSaid := law03_LatticeTurned.row LatticeTurned_law
end Go.Proofs.Ytliaopbgkcdibaa
