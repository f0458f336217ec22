/- Steps of the seat's proofs. -/
import Derived.Test.YtikpanghmcadoaaGreatDoorETabx
set_option linter.unusedSimpArgs false
set_option linter.unusedVariables false
open Go Go.Proofs Go.Proofs.YtikpanghmcadoaaGreatDoor
namespace Go.Proofs.YtikpanghmcadoaaGreatDoor.E.S3
theorem ex : evCall cfg 3000 0 6 [] [] = some (.bool true, []) := by kernel_rfl
end Go.Proofs.YtikpanghmcadoaaGreatDoor.E.S3
