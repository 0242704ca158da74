/- The law PolyPick, plainly. -/
import Derived.Test.YtggafoldccikdaaPkO
import Derived.Test.YtggafoldccikdaaPAllx43
namespace Go.Proofs.Ytggafoldccikdaa.Pure
open Go.RowKit Go.Proofs.Ytggafoldccikdaa.PAll
theorem PolyPick : mapmakerlaw11_PolyPick.Pure := Pk.PolyPick

end Go.Proofs.Ytggafoldccikdaa.Pure
