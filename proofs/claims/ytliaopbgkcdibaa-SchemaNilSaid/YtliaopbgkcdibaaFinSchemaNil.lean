/- SchemaNil: a catalog that is none answers nothing; the chapter's example is as the chapter says. Conditions: any name; none beside the statement's own. -/
import Derived.Test.YtliaopbgkcdibaaCrSchemaNil
import Derived.Test.YtliaopbgkcdibaaSa
namespace Go.Proofs.Ytliaopbgkcdibaa
theorem provedSchemaNil : Rows.SchemaNilSaid := law08_SchemaNil.row SchemaNil_law
end Go.Proofs.Ytliaopbgkcdibaa
