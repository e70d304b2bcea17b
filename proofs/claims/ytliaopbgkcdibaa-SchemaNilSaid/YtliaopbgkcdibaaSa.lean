/- The example of layer 8 is alive, and SchemaNil's plain law: a catalog that is not there answers nothing. -/
import Derived.Test.YtliaopbgkcdibaaCpS
set_option maxRecDepth 100000
namespace Go.Proofs.Ytliaopbgkcdibaa
theorem alive08 : law08_alive 300 = some true := by decide +kernel
theorem SchemaNil_law (p : ByteArray) : ∃ k, law08_SchemaNil k p = some true := by
  refine ⟨300, ?_⟩
  have h1 : schema_Catalog_Table 300 none p = some (0, false) := rfl
  have h2 : schema_Catalog_Channel 300 none p = some (0, false) := rfl
  have h3 : schema_Catalog_Principal 300 none p = some (0, false) := rfl
  have h4 : schema_Catalog_Lattice 300 none = some none := rfl
  have h5 : schema_Catalog_Tables 300 none = some [] := rfl
  have h6 : schema_Catalog_Channels 300 none = some [] := rfl
  have h7 : schema_Catalog_Principals 300 none = some [] := rfl
  have h8 : schema_Catalog_Limit 300 none = some 0 := rfl
  unfold law08_SchemaNil
  rw [h1, h2, h3, h4, h5, h6, h7, h8, alive08]
  rfl
end Go.Proofs.Ytliaopbgkcdibaa
