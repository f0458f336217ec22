/- The seat's codes stand the evaluator's look; its library calls say what they say. -/
import Derived.Test.YtikpanghmcadoaaGreatDoorETab
import Derived.Test.YtikpanghmcadoaaGreatDoorEJoin
set_option linter.unusedSimpArgs false
set_option linter.unusedVariables false
open Go Go.Proofs Go.Proofs.YtikpanghmcadoaaGreatDoor
namespace Go.Proofs.YtikpanghmcadoaaGreatDoor.E.S3
theorem codesOK : (List.range 155).all (fun f => match Tryz.prog.funcs[f]? with
      | some fn => !(fn.name == "runtime.NumGoroutine") && (match FI.of fn with | some fi => codeOK cfg f fi.body | none => true)
      | none => true) = true := by kernel_rfl
theorem ordOK : Tryz.prog.follows .mixedOrders = true := by kernel_rfl
theorem joinSays : JoinSays Tryz.prog 38 :=
  ⟨fun a c sep w => Tryz.strings_Join_none a c sep w, fun bk o c xs sep w h1 h2 h3 h4 h5 => Tryz.strings_Join bk o c xs sep w h1 h2 h3 h4 h5⟩
set_option maxRecDepth 100000 in
theorem extOK : ∀ f e, ext f = some e → ∀ args v hp, e args = some v → ∀ B w0 L w (rargs : List Value), Inv glob B w0 L w hp → CR hp.length L w args rargs → FCalls Tryz.prog f rargs.toArray w (CallPost cfg B w0 L w hp.length v hp) := by
  intro f e he args v hp hv B w0 L w rargs hI hA
  unfold ext at he
  cases h1 : Nat.beq f 98 with
  | true =>
    rw [h1] at he
    cases he
    obtain rfl := Nat.eq_of_beq_eq_true h1
    exact extIx_ok (C := cfg) Tryz.func98 (by kernel_rfl) (by kernel_rfl) (by kernel_rfl) (by kernel_rfl) args v hp hv B w0 L w rargs hI hA
  | false =>
    rw [h1] at he
    cases h2 : Nat.beq f 38 with
    | true =>
      rw [h2] at he
      cases he
      obtain rfl := Nat.eq_of_beq_eq_true h2
      exact extJoin_ok (C := cfg) Tryz.func38 (by kernel_rfl) (by kernel_rfl) joinSays args v hp hv B w0 L w rargs hI hA
    | false => rw [h2] at he; cases he
set_option maxRecDepth 100000 in
theorem tab : TabOK Tryz.prog cfg := mkTab tysOK fnsOK codesOK ordOK extOK
end Go.Proofs.YtikpanghmcadoaaGreatDoor.E.S3
