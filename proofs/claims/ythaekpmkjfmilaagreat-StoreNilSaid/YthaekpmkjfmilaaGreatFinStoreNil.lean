/- StoreNil: a store that is none has nothing, and answers ErrNil; whatever the input. -/
import Derived.Test.YthaekpmkjfmilaaGreatCrStoreNil
import Derived.Test.YthaekpmkjfmilaaGreatNa
namespace Go.Proofs.YthaekpmkjfmilaaGreat
theorem provedStoreNil : Rows.StoreNilSaid := law12_StoreNil.row StoreNil_law
end Go.Proofs.YthaekpmkjfmilaaGreat
