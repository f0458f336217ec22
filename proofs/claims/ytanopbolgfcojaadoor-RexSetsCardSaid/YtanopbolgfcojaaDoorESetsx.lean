/- Any set has, with more, the bytes that the chapter says: the law, whatever the arguments. -/
import Derived.Test.YtanopbolgfcojaaDoorEHead
import Derived.Test.YtanopbolgfcojaaDoorESets
import Derived.Test.YtanopbolgfcojaaDoorETabx
import Derived.Test.YtanopbolgfcojaaDoorERng
set_option linter.unusedSimpArgs false
set_option linter.unusedVariables false
namespace Go.Proofs.YtanopbolgfcojaaDoor.E.S4
open Go Go.Proofs E E.R
theorem sets_fin (x : AV) (a1 a2 a3 : Int) (h1 : 0 ≤ a1 ∧ a1 ≤ 255) (h2 : 0 ≤ a2 ∧ a2 ≤ 255) (h3 : 0 ≤ a3 ∧ a3 ≤ 255) (hx : Sh (cfg 0) 6 24 x) : evI (cfg 0) 0 3 [x, .int .u8 a1, .int .u8 a2, .int .u8 a3] [] = some (.bool true, []) :=
  sets_all x a1 a2 a3 h1 h2 h3 hx ex0
end Go.Proofs.YtanopbolgfcojaaDoor.E.S4
