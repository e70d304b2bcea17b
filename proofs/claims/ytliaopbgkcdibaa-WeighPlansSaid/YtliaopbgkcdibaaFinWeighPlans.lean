/- WeighPlans: what any plan costs, by any tables' rows, is as the reference says. Conditions: any input; none beside the statement's own. -/
import Derived.Test.YtliaopbgkcdibaaCrWeighPlans
import Derived.Test.YtliaopbgkcdibaaWg
namespace Go.Proofs.Ytliaopbgkcdibaa
theorem provedWeighPlans : Rows.WeighPlansSaid := law21_WeighPlans.row WeighPlans_law
end Go.Proofs.Ytliaopbgkcdibaa
