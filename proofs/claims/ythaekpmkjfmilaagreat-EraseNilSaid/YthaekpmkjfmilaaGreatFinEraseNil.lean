/- EraseNil: of a store that is none nothing is seen; whatever the input. -/
import Derived.Test.YthaekpmkjfmilaaGreatCrEraseNil
import Derived.Test.YthaekpmkjfmilaaGreatNa
namespace Go.Proofs.YthaekpmkjfmilaaGreat
theorem provedEraseNil : Rows.EraseNilSaid := law20_EraseNil.row EraseNil_law
end Go.Proofs.YthaekpmkjfmilaaGreat
