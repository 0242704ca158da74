/- The law PolyInvariant, plainly. -/
import Derived.Test.YtggafoldccikdaaPkS
import Derived.Test.YtggafoldccikdaaPAllx50
namespace Go.Proofs.Ytggafoldccikdaa.Pure
open Go.RowKit Go.Proofs.Ytggafoldccikdaa.PAll
theorem PolyInvariant : mapmakerlaw11_PolyInvariant.Pure := Pk.PolyInvariant

end Go.Proofs.Ytggafoldccikdaa.Pure
