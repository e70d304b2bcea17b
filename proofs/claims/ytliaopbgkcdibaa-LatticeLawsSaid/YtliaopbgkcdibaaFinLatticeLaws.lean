/- LatticeLaws: the least above and the greatest below turn, group and swallow, and fit what stands below what. Conditions: any input; none beside the statement's own. -/
import Derived.Test.YtliaopbgkcdibaaCrLatticeLaws
import Derived.Test.YtliaopbgkcdibaaLi
namespace Go.Proofs.Ytliaopbgkcdibaa
theorem provedLatticeLaws : Rows.LatticeLawsSaid := law03_LatticeLaws.row LatticeLaws_law
end Go.Proofs.Ytliaopbgkcdibaa
