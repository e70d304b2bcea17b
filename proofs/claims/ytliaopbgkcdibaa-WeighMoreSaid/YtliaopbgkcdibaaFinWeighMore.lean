/- WeighMore: with more rows in tables nothing costs less. Conditions: any input; none beside the statement's own. -/
import Derived.Test.YtliaopbgkcdibaaCrWeighMore
import Derived.Test.YtliaopbgkcdibaaWg
namespace Go.Proofs.Ytliaopbgkcdibaa
theorem provedWeighMore : Rows.WeighMoreSaid := law21_WeighMore.row WeighMore_law
end Go.Proofs.Ytliaopbgkcdibaa
