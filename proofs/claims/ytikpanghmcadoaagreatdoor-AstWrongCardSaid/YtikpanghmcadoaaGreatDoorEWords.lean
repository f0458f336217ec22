/- Small words of the seat's proofs. -/
import Derived.Test.YtikpanghmcadoaaGreatDoorEHead
set_option linter.unusedSimpArgs false
set_option linter.unusedVariables false
namespace Go.Proofs.YtikpanghmcadoaaGreatDoor.E.S3
open Go Go.Proofs E
noncomputable def bodyOf (f : Func) (r : Nat) : Code := match f.body with
  | some b => (loopAt r b).getD .skip
  | none => .skip
theorem i_eq (n : Int) : IntKind.i64.wrap n = (if n % 18446744073709551616 ≥ 9223372036854775808 then n % 18446744073709551616 - 18446744073709551616 else n % 18446744073709551616) := by
  unfold IntKind.wrap; simp [IntKind.bits, IntKind.signed]
end Go.Proofs.YtikpanghmcadoaaGreatDoor.E.S3
