/- The seat's codes stand the evaluator's look; its library calls say what they say. -/
import Derived.Test.YtanopbolgfcojaaDoorETab
import Derived.Test.YtanopbolgfcojaaDoorEJoin
set_option linter.unusedSimpArgs false
set_option linter.unusedVariables false
open Go Go.Proofs Go.Proofs.YtanopbolgfcojaaDoor
namespace Go.Proofs.YtanopbolgfcojaaDoor.E.S4
theorem codesOK : (List.range 127).all (fun f => match Tryd.prog.funcs[f]? with
      | some fn => !(fn.name == "runtime.NumGoroutine") && (match FI.of fn with | some fi => codeOK (cfg 0) f fi.body | none => true)
      | none => true) = true := by kernel_rfl
theorem ordOK : Tryd.prog.follows .mixedOrders = true := by kernel_rfl
theorem joinSays : JoinSays Tryd.prog 27 :=
  ⟨fun a c sep w => Tryd.strings_Join_none a c sep w, fun bk o c xs sep w h1 h2 h3 h4 h5 => Tryd.strings_Join bk o c xs sep w h1 h2 h3 h4 h5⟩
set_option maxRecDepth 100000 in
theorem extOK : ∀ f e, ext f = some e → ∀ args v hp, e args = some v → ∀ B w0 L w (rargs : List Value), Inv glob B w0 L w hp → CR hp.length L w args rargs → FCalls Tryd.prog f rargs.toArray w (CallPost (cfg 0) B w0 L w hp.length v hp) := by
  intro f e he args v hp hv B w0 L w rargs hI hA
  unfold ext at he
  cases h1 : Nat.beq f 68 with
  | true =>
    rw [h1] at he
    cases he
    obtain rfl := Nat.eq_of_beq_eq_true h1
    exact extIx_ok (C := cfg 0) Tryd.func68 (by kernel_rfl) (by kernel_rfl) (by kernel_rfl) (by kernel_rfl) args v hp hv B w0 L w rargs hI hA
  | false =>
    rw [h1] at he
    cases h2 : Nat.beq f 27 with
    | true =>
      rw [h2] at he
      cases he
      obtain rfl := Nat.eq_of_beq_eq_true h2
      exact extJoin_ok (C := cfg 0) Tryd.func27 (by kernel_rfl) (by kernel_rfl) joinSays args v hp hv B w0 L w rargs hI hA
    | false => rw [h2] at he; cases he
set_option maxRecDepth 100000 in
theorem tab : TabOK Tryd.prog (cfg 0) := mkTab tysOK fnsOK codesOK ordOK extOK
end Go.Proofs.YtanopbolgfcojaaDoor.E.S4
