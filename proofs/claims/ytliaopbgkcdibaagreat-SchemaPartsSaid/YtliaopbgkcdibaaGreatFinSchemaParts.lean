/- A schema without one of its channels, or of its principals, is one; all others are looked up as before. -/
import Derived.Test.YtliaopbgkcdibaaGreatCrSchemaParts
import Derived.Test.YtliaopbgkcdibaaGreatPf
namespace Go.Proofs.YtliaopbgkcdibaaGreat
theorem provedSchemaParts : Rows.SchemaPartsSaid := law08_SchemaParts.row SchemaParts_law
end Go.Proofs.YtliaopbgkcdibaaGreat
